import PyProof.Rows.All
import Wide.All
import OpenK.AllK
import Wide.FinOn
import HandS.ForMost
import HandS.ForExc
import HandS.CallSlots
import HandS.WordsExc
import HandS.TryMany
import HandS.Zip
import HandS.TupAny
import HandS.Wide
import HandS.Conv
import HandS.Small
import HandS.Dict
import KE.KDictKeyed
import HandS.Base
import HandS.Call
import HandS.List
import HandS.Iter
import HandS.SetFor
import KE.GoesMore
import KE.GoesEnum
import KE.GoesZip
import KE.KDictDisplayH
import PyProof.DictTable
import HandS.ExcInit
import KE.KSuper
import KE.KExcSuper
import HandS.TupMul
import HandS.Style
import HandS.IsInst
import HandS.SortInts
import HandS.SortRule
import HandS.Lambda
import HandS.EndTab
import HandS.HeadHook4
import HandS.ExcCtx
import KE.LtData
import KE.SortData
import KE.KExcIs
import HandS.ExcIs
import HandS.ExcField
import HandS.Deep
import KE.DataCmp
import HandS.Zip0
import HandS.DictTup
import KE.DataMinMax
import HandS.ExcValue
import KE.KOpsOwn
import HandS.More
import HandS.Strs
import HandS.Slots
import HandS.SlotsOwn
import HandS.OwnEq
import HandS.ExcOwn
import PyProof.InstEq
import KE.KFromBytes
import PyProof.Conv_bool
import HandS.Star
import HandS.Property
import HandS.Text
import HandS.Replace
import HandS.Defaults
import HandS.Head0
import HandS.Head1
import HandS.Head2
import HandS.HeadEnd
import HandS.HeadHook1
import HandS.HeadHook2
import PySem.Challenge.RW_lacerows_k15_lacings_as_values
set_option Elab.async false
set_option linter.all false
set_option maxRecDepth 100000
set_option maxHeartbeats 4000000
namespace LR
open PySem PySem.Spec PyProof.Rows L2
/-! ### dicts whose keys are nested tuples, over the layer's heap -/
abbrev NK := NestedKey
mutual
inductive KAt (K : PySem.W.Frag) (H : Hp) : NK → V → Prop
  | non : KAt K H .none .non
  | bl (b : Bool) {i : Int} (h : i = if b = true then 1 else 0) : KAt K H (.num i) (.bl b)
  | int (i : Int) : KAt K H (.num i) (.int i)
  | str (x : Str) : KAt K H (.text x) (.str x)
  | tup {a : Addr} {xs : List V} {ks : List NK} : SqT K H a xs → KAts K H ks xs → KAt K H (.tup ks) (.ref a)
inductive KAts (K : PySem.W.Frag) (H : Hp) : List NK → List V → Prop
  | nil : KAts K H [] []
  | cons {k : NK} {v : V} {ks : List NK} {vs : List V} : KAt K H k v → KAts K H ks vs → KAts K H (k :: ks) (v :: vs)
end
section
variable {X : Cx} {pins : List (Addr × Obj)} {σ : L2.St} {H : Hp} {s : Shared}
mutual
theorem KAt.is (I : Inv X pins σ H s) : ∀ {k : NK} {v : V} {u : Value}, KAt X.K H k v → RelV v u → NestedIs s.heap k u
  | _, _, u, .non, r => by
    obtain rfl : u = Value.none := r
    exact .none
  | _, _, u, .bl b h, r => by
    obtain rfl : u = Value.bool b := r
    exact .bool h
  | _, _, u, .int i, r => by
    obtain ⟨t, rfl⟩ := r
    exact .int i t
  | _, _, u, .str x, r => by
    obtain ⟨t, rfl⟩ := r
    exact .text x t
  | _, _, u, .tup (a := a) h ks, r => by
    obtain rfl : u = Value.ref a := r
    obtain ⟨its, rv, ⟨o, ho, hc, n, hd⟩, hz⟩ := I.tuple h
    exact .tup ho hc hd (by simpa using KAts.is I ks rv)
theorem KAts.is (I : Inv X pins σ H s) : ∀ {ks : List NK} {vs : List V} {us : List Value}, KAts X.K H ks vs → Vals vs us → NestedAll s.heap ks us
  | _, _, _, .nil, .nil => .nil
  | _, _, _, .cons k ks, .cons r t => .cons (KAt.is I k r) (KAts.is I ks t)
end
end
/-- an entry: the key, its tuple's place, the value -/
abbrev NE := NK × Addr × V
def valN (es : List NE) (k : NK) : Option V := (es.find? fun e => decide (e.1 = k)).map (·.2.2)
def NRel (e : NE) (x : NK × Addr × Value) : Prop := e.1 = x.1 ∧ e.2.1 = x.2.1 ∧ RelV e.2.2 x.2.2
def NdO (P : Program) (w : World) (a : Addr) (es : List NE) : HO := .ext fun h => (a == sysModules) = false ∧ es.length ≤ sizeLine ∧ ∃ xs : List (NK × Addr × Value), Paired NRel es xs ∧
  ∃ o es' ep, h.get? a = some o ∧ o.ExactDict ∧ o.data = .dict es' ep ∧ es'.toList = xs.map (entryOfKey (nestedKind P w)) ∧ (xs.map (·.1)).Nodup
theorem ndO_ok {P : Program} {w : World} {H : Hp} {h : Heap} {a : Addr} {es : List NE} {xs : List (NK × Addr × Value)} (hd : (a == sysModules) = false) (hl : es.length ≤ sizeLine) (r : Paired NRel es xs)
    {o : Obj} {es' : Array DictEntry} {ep : Nat} (h1 : h.get? a = some o) (h2 : o.ExactDict) (h3 : o.data = .dict es' ep) (h4 : es'.toList = xs.map (entryOfKey (nestedKind P w))) (h5 : (xs.map (·.1)).Nodup) : ObjOk P w H h a (NdO P w a es) :=
  ⟨⟨hd, hl, xs, r, o, es', ep, h1, h2, h3, h4, h5⟩, ⟨o, h1⟩, fun g1 g2 ⟨hd, hl, xs, r, o, es', ep, h1, q⟩ k => ⟨hd, hl, xs, r, o, es', ep, k o h1, q⟩⟩
theorem nrel_val : ∀ {es : List NE} {xs : List (NK × Addr × Value)} (k : NK), Paired NRel es xs → RelO (valN es k) ((atKey xs k).map (·.2))
  | _, _, k, .nil => trivial
  | e :: es, x :: xs, k, .cons r t => by
    have ih := nrel_val k t
    unfold valN atKey at ih ⊢
    rw [List.find?_cons, List.find?_cons, ← r.1]
    by_cases h : e.1 = k
    · rw [decide_eq_true h]
      exact r.2.2
    · rw [decide_eq_false h]
      exact ih
/-- what the dict at a knows -/
structure NdAt (X : Cx) (H : Hp) (a : Addr) (es : List NE) : Prop where
  at_ : H a = some (NdO X.prog X.w a es)
  keys : ∀ e ∈ es, KAt X.K H e.1 (.ref e.2.1) ∧ e.1.depth ≤ 8
section
variable {X : Cx} {pins : List (Addr × Obj)} {σ : L2.St} {H : Hp} {s : Shared} {a b : Addr} {es : List NE} {k : NK} {A : Around} {E : Value → Shared → Prop}
theorem NdAt.told (I : Inv X pins σ H s) (N : NdAt X H a es) : (a == sysModules) = false ∧ es.length ≤ sizeLine ∧ ∃ xs, Paired NRel es xs ∧ s.heap.DictOfH (nestedKind X.prog X.w) a xs := by
  obtain ⟨⟨hd, hl, xs, r, o, es', ep, h1, h2, h3, h4, h5⟩, _⟩ := (show ObjOk X.prog X.w H s.heap a (NdO X.prog X.w a es) from I.hok a _ N.at_)
  refine ⟨hd, hl, xs, r, o, es', ep, h1, h2, h3, h4, ?_, h5⟩
  have all : ∀ {l : List NE} {m : List (NK × Addr × Value)}, Paired NRel l m → (∀ e ∈ l, KAt X.K H e.1 (.ref e.2.1) ∧ e.1.depth ≤ 8) → ∀ x ∈ m, (nestedKind X.prog X.w).is s.heap x.1 x.2.1 := by
    intro l m q
    induction q with
    | nil => intro _ x hx; exact nomatch hx
    | @cons p q ps qs hq t ih =>
      intro hk x hx
      rcases List.mem_cons.mp hx with e | hx
      · subst e
        obtain ⟨k1, k2⟩ := hk p List.mem_cons_self
        rw [← hq.1, ← hq.2.1]
        exact ⟨KAt.is I k1 rfl, k2⟩
      · exact ih (fun e he => hk e (List.mem_cons_of_mem _ he)) x hx
  exact all r N.keys
theorem nk_is (I : Inv X pins σ H s) (hk : KAt X.K H k (.ref b)) (h8 : k.depth ≤ 8) : (nestedKind X.prog X.w).is s.heap k b := ⟨KAt.is I hk rfl, h8⟩
theorem nk_room {X : Cx} {A : Around} (hu : A.units + 64 < cLine) : (nestedKind X.prog X.w).room A.in1 := by
  show A.in1.units + 8 < cLine
  simp only [Around.in1_units]
  omega
theorem n_getItem {v : V} {Q : Value → Shared → Prop} (hu : A.units + 64 < cLine) (I : Inv X pins σ H s) (N : NdAt X H a es) (hk : KAt X.K H k (.ref b)) (h8 : k.depth ≤ 8) (hv : valN es k = some v) (h : ∀ w' s', Inv X pins σ H s' → RelV v w' → Q w' s') :
    wpAny (model X.prog X.w) A (getItem (.ref a) (.ref b)) Q E s := by
  obtain ⟨hd, hl, xs, r, dd⟩ := N.told I
  obtain ⟨w', hw, rw'⟩ := RelO.some_of (v := v) (o := (atKey xs k).map (·.2)) (by rw [← hv]; exact nrel_val k r)
  obtain ⟨p, hp, hp2⟩ := Option.map_eq_some_iff.mp hw
  refine wpAny_getItem_heap (nk_room (X := X) hu) (nk_is I hk h8) dd hp ?_
  rw [hp2]
  exact h w' _ (I.tok _) rw'
theorem n_in {Q : Value → Shared → Prop} (hu : A.units + 64 < cLine) (I : Inv X pins σ H s) (N : NdAt X H a es) (hk : KAt X.K H k (.ref b)) (h8 : k.depth ≤ 8) (h : ∀ s', Inv X pins σ H s' → Q (.bool (valN es k).isSome) s') :
    wpAny (model X.prog X.w) A (compareOp .In (.ref b) (.ref a)) Q E s := by
  obtain ⟨hd, hl, xs, r, dd⟩ := N.told I
  refine wpAny_in_heap (nk_room (X := X) hu) (nk_is I hk h8) hd dd ?_
  have q := (nrel_val k r).isSome_eq
  rw [Option.isSome_map] at q
  rw [← q]
  exact h _ (I.tok _)
theorem n_notIn {Q : Value → Shared → Prop} (hu : A.units + 64 < cLine) (I : Inv X pins σ H s) (N : NdAt X H a es) (hk : KAt X.K H k (.ref b)) (h8 : k.depth ≤ 8) (h : ∀ s', Inv X pins σ H s' → Q (.bool (!(valN es k).isSome)) s') :
    wpAny (model X.prog X.w) A (compareOp .NotIn (.ref b) (.ref a)) Q E s := by
  obtain ⟨hd, hl, xs, r, dd⟩ := N.told I
  refine wpAny_notIn_heap (nk_room (X := X) hu) (nk_is I hk h8) hd dd ?_
  have q := (nrel_val k r).isSome_eq
  rw [Option.isSome_map] at q
  rw [← q]
  exact h _ (I.tok _)
theorem paired_snoc {α β : Type} {F : α → β → Prop} {x : α} {y : β} (h : F x y) : ∀ {l : List α} {m : List β}, Paired F l m → Paired F (l ++ [x]) (m ++ [y])
  | _, _, .nil => .cons h .nil
  | _, _, .cons r t => .cons r (paired_snoc h t)
/-- d[y] = v, a new key -/
theorem n_setItem {v : V} {u : Value} {Q : Unit → Shared → Prop} (hu : A.units + 64 < cLine) (I : Inv X pins σ H s) (N : NdAt X H a es) (hk : KAt X.K H k (.ref b)) (h8 : k.depth ≤ 8) (hl : es.length < sizeLine) (hn : valN es k = none) (rv : RelV v u)
    (h : ∀ s', Inv X pins σ (upd H a (NdO X.prog X.w a (es ++ [(k, b, v)]))) s' → Q () s') :
    wpAny (model X.prog X.w) A (setItem (.ref a) (.ref b) u) Q E s := by
  obtain ⟨hd, _, xs, r, dd⟩ := N.told I
  have hz : xs.length ≤ sizeLine := by rw [← Paired.length r]; omega
  have hx : atKey xs k = none := by
    have q := (nrel_val k r).isSome_eq
    rw [Option.isSome_map, hn] at q
    exact Option.not_isSome_iff_eq_none.mp (by rw [← q]; decide)
  have hst : storedH xs k b u = xs ++ [(k, b, u)] := storedH_new hx b u
  refine wpAny_setItem_heap (hsz := hz) (nk_room (X := X) hu) (nk_is I hk h8) dd fun h' dd' hs => h _ ?_
  rw [hst] at dd'
  obtain ⟨q, es', ep, hq, h2, h3, h4, _, h5⟩ := dd'
  exact d_write I (by rw [N.at_]; exact True.intro) hs ⟨q, hq⟩ (ndO_ok hd (by rw [List.length_append]; simp; omega) (paired_snoc ⟨rfl, rfl, rv⟩ r) hq h2 h3 h4 h5)
end
/-- what the dict at a holds at the key y; the heap behind a[y] = v, y new -/
def NGet (X : Cx) (H : Hp) (a : Addr) (y : V) (o : Option V) : Prop := ∃ es k b, NdAt X H a es ∧ y = .ref b ∧ KAt X.K H k y ∧ k.depth ≤ 8 ∧ o = valN es k
def NPut (X : Cx) (H : Hp) (a : Addr) (y v : V) (H' : Hp) : Prop := ∃ es k b, NdAt X H a es ∧ y = .ref b ∧ KAt X.K H k y ∧ k.depth ≤ 8 ∧ es.length < sizeLine ∧ valN es k = none ∧ H' = upd H a (NdO X.prog X.w a (es ++ [(k, b, v)]))
def rInN (X : Cx) (ng : Bool) : R2 := fun x y H Q => ∃ a o, y = .ref a ∧ NGet X H a x o ∧ Q (.bl (if ng then !o.isSome else o.isSome)) H
theorem op_inN {X : Cx} (hu : X.A.units + 64 < cLine) : OpR X (compareOp .In) (rInN X false) := by
  intro pins s σ H x y v u Q I rx ry h
  obtain ⟨a, o, rfl, ⟨es, k, b, N, rfl, hk, h8, rfl⟩, q⟩ := h
  cases (show v = Value.ref b from rx)
  cases (show u = Value.ref a from ry)
  exact n_in hu I N hk h8 fun s' I' => ⟨.bl (valN es k).isSome, H, I', rfl, q⟩
theorem op_notInN {X : Cx} (hu : X.A.units + 64 < cLine) : OpR X (compareOp .NotIn) (rInN X true) := by
  intro pins s σ H x y v u Q I rx ry h
  obtain ⟨a, o, rfl, ⟨es, k, b, N, rfl, hk, h8, rfl⟩, q⟩ := h
  cases (show v = Value.ref b from rx)
  cases (show u = Value.ref a from ry)
  exact n_notIn hu I N hk h8 fun s' I' => ⟨.bl (!(valN es k).isSome), H, I', rfl, q⟩
def rSetN (X : Cx) : TSet := fun o i v H Q => ∃ a H', o = .ref a ∧ NPut X H a i v H' ∧ Q H'
theorem set_nd {X : Cx} (hu : X.A.units + 64 < cLine) : PSet X (rSetN X) := by
  intro pins s σ H o i v ov iv u Q I ro ri rv h
  obtain ⟨a, H', rfl, ⟨es, k, b, N, rfl, hk, h8, hl, hn, rfl⟩, q⟩ := h
  cases (show ov = Value.ref a from ro)
  cases (show iv = Value.ref b from ri)
  exact n_setItem hu I N hk h8 hl hn rv fun s' I' => ⟨_, I', q⟩
theorem nd_typeIs {X : Cx} {pins : List (Addr × Obj)} {σ : L2.St} {H : Hp} {s : Shared} {a : Addr} {es : List NE} (I : Inv X pins σ H s) (N : NdAt X H a es) : s.TypeIs (.ref a) "dict" := by
  obtain ⟨_, _, xs, _, dd⟩ := N.told I
  exact dd.typeIs
/-- d[y] -/
def tNGet (X : Cx) (td ty : TE) : TE := fun σ H Q => td σ H fun x H1 => ty σ H1 fun y H2 => ∃ a v, x = .ref a ∧ NGet X H2 a y (some v) ∧ Q v H2
theorem pe_nget {X : Cx} {o i : Expr} {pos : Pos} {td ty : TE} (hu : X.A.units + 64 < cLine) (ho : PE X o td) (hi : PE X i ty) (hs : NoSl i) : PE X (.Subscript o i pos) (tNGet X td ty) := by
  refine ⟨fun pins s σ H Q I h => ?_⟩
  refine subD_of PySem.F.slot_dict_getitem.lookup hs (thn (ho.run pins s σ H _ I h) fun u s1 ⟨x, H1, I1, rx, q1⟩ => thn (hi.run pins s1 σ H1 _ I1 q1) fun iv s2 ⟨y, H2, I2, ry, a, v, ex, ⟨es, k, b, N, ey, hk, h8, hv⟩, q2⟩ => ?_)
  subst ex ey
  obtain rfl : u = Value.ref a := rx
  cases (show iv = Value.ref b from ry)
  exact ⟨nd_typeIs I2 N, n_getItem hu I2 N hk h8 hv.symm fun w' s3 I3 rw' => ⟨v, H2, I3, rw', q2⟩⟩
/-- {} -/
def tNewN (X : Cx) : TE := fun _ H Q => ∀ p, H p = none → Q (.ref p) (upd H p (NdO X.prog X.w p []))
theorem pe_dnewN {X : Cx} {pos : Pos} : PE X (.Dict [] [] pos) (tNewN X) := ⟨fun pins s σ H Q I h =>
  wpAny_Dict_empty ⟨.ref s.heap.objs.size, _, I.laid (a := s.heap.objs.size) (o := NdO X.prog X.w s.heap.objs.size []) (t' := s.toks) (fun _ _ q => Heap.get?_push_of_some _ q) (Nat.le_refl _)
    (ndO_ok (beq_eq_false_iff_ne.mpr (Ne.symm (Nat.ne_of_lt I.big))) (Nat.zero_le _) .nil (Heap.get?_push_size _ rfl) ⟨rfl, rfl, rfl⟩ rfl rfl List.nodup_nil), rfl, h _ (I.hok.fresh (Nat.le_refl _))⟩⟩
end LR

set_option Elab.async false
set_option linter.all false
set_option maxRecDepth 100000
set_option maxHeartbeats 4000000
namespace LR
open PySem PySem.Spec PyProof.Rows L2
/-! ### zip of three lists -/
def Itz3 (K : PySem.W.Frag) (a b c : Addr) : It :=
  ⟨fun i H => ∃ (xs ys zs : List V) (x y z : V), SqL K H a xs ∧ SqL K H b ys ∧ SqL K H c zs ∧ xs[i]? = some x ∧ ys[i]? = some y ∧ zs[i]? = some z,
    fun i H v H' => ∃ T x y z, v = .ref T ∧ H T = none ∧ H' = upd H T (.tup [x, y, z]) ∧ (∀ xs, SqL K H a xs → xs[i]? = some x) ∧ (∀ ys, SqL K H b ys → ys[i]? = some y) ∧ ∀ zs, SqL K H c zs → zs[i]? = some z,
    fun i H => ∃ xs ys zs : List V, SqL K H a xs ∧ SqL K H b ys ∧ SqL K H c zs ∧ i ≤ xs.length ∧ i ≤ ys.length ∧ i ≤ zs.length ∧ (i = xs.length ∨ i = ys.length ∨ i = zs.length)⟩
theorem turn_zip3 {P : Program} {w : World} {K : PySem.W.Frag} {elts : List Expr} {kk : Nat} {tpos : Pos} {a b c z TI TO i1 i2 i3 : Addr} (D : ZipSep3 z TI TO i1 i2 i3 [i1, a] [i2, b] [i3, c]) (n1 : a ≠ i1) (n2 : b ≠ i2) (n3 : c ≠ i3) :
    Turn P w K (.Tuple elts kk tpos) (Itz3 K a b c) [z, TI, TO, i1, i2, i3] z
      (fun i h => IsZip h z TI TO .none ∧ IsTupOf3 h TI (.ref i1) (.ref i2) (.ref i3) ∧ (∃ x y u, IsTupOf3 h TO x y u) ∧ h.IsListIter i1 a i ∧ h.IsListIter i2 b i ∧ h.IsListIter i3 c i) where
  mem := by simp
  obj := fun i h st c hc => by
    obtain ⟨hz, hTI, ⟨x, y, u, hTO⟩, ⟨o1, e1, _, d1⟩, ⟨o2, e2, _, d2⟩, ⟨o3, e3, _, d3⟩⟩ := st
    have e' : c = z ∨ c = TI ∨ c = TO ∨ c = i1 ∨ c = i2 ∨ c = i3 := by simpa using hc
    rcases e' with q | q | q | q | q | q
    · rw [q]; exact ⟨_, hz, fun v q => nomatch q⟩
    · rw [q]; exact ⟨_, hTI, fun v q => nomatch q⟩
    · rw [q]; exact ⟨_, hTO, fun v q => nomatch q⟩
    · rw [q]; exact ⟨o1, e1, fun v q => by rw [d1] at q; cases q⟩
    · rw [q]; exact ⟨o2, e2, fun v q => by rw [d2] at q; cases q⟩
    · rw [q]; exact ⟨o3, e3, fun v q => by rw [d3] at q; cases q⟩
  keep := fun i h h' st k => by
    obtain ⟨hz, hTI, ⟨x, y, u, hTO⟩, h1, h2, h3⟩ := st
    exact ⟨k z (by simp) _ hz, k TI (by simp) _ hTI, ⟨x, y, u, k TO (by simp) _ hTO⟩, h1.at fun o q => k i1 (by simp) o q, h2.at fun o q => k i2 (by simp) o q, h3.at fun o q => k i3 (by simp) o q⟩
  item := by
    intro X hP hw hK hc i pins s σ H E I hf st hg
    subst hP hw hK
    obtain ⟨hz, hTI, ⟨x0, y0, u0, hTO⟩, h1, h2, h3⟩ := st
    obtain ⟨xs, ys, zs, x, y, t, hqx, hqy, hqz, hx, hy, ht⟩ := hg
    obtain ⟨its, rv, p, _⟩ := I.list hqx
    obtain ⟨its2, rv2, p2, _⟩ := I.list hqy
    obtain ⟨its3, rv3, p3, _⟩ := I.list hqz
    obtain ⟨u, hu, ru⟩ := rv.get hx
    obtain ⟨u2, hu2, ru2⟩ := rv2.get hy
    obtain ⟨u3, hu3, ru3⟩ := rv3.get ht
    have hzl : z < s.heap.objs.size := Heap.lt_size hz
    have D1 := Draws.list (prog := X.prog) (w := X.w) (A := X.A.in1) (I.ok.hd hc) i1 a n1 its.toArray
    have D2 := Draws.list (prog := X.prog) (w := X.w) (A := X.A.in1) (I.ok.hd hc) i2 b n2 its2.toArray
    have D3 := Draws.list (prog := X.prog) (w := X.w) (A := X.A.in1) (I.ok.hd hc) i3 c n3 its3.toArray
    refine wpAny_pyNext_zipD3_item D D1 D2 D3 hz hTI hTO ⟨h1, p.isList⟩ ⟨h2, p2.isList⟩ ⟨h3, p3.isList⟩ (by have := (List.getElem?_eq_some_iff.mp hu).1; simpa using this) (by have := (List.getElem?_eq_some_iff.mp hu2).1; simpa using this) (by have := (List.getElem?_eq_some_iff.mp hu3).1; simpa using this)
      fun x1 x2 x3 h' tk y1 y2 y3 z' TO' s1' s2' s3' hT hsz hk => ?_
    obtain rfl : u = x1 := by
      have e : its[i]? = some x1 := by simpa using y1
      rw [hu] at e
      exact Option.some.inj e
    obtain rfl : u2 = x2 := by
      have e : its2[i]? = some x2 := by simpa using y2
      rw [hu2] at e
      exact Option.some.inj e
    obtain rfl : u3 = x3 := by
      have e : its3[i]? = some x3 := by simpa using y3
      rw [hu3] at e
      exact Option.some.inj e
    refine ⟨_, rfl, wpAny_letOwnedTupleGo_zip (s := { s with heap := h', toks := tk }) z' fun h'' z'' sb => ?_⟩
    have hT2 : h''.get? s.heap.objs.size = some { cls := .type "tuple", data := .seq #[u, u2, u3] } := (sb.2 _ (Nat.ne_of_gt hzl)).trans hT
    have new : ObjOk X.prog X.w (upd H s.heap.objs.size (.tup [x, y, t])) h'' s.heap.objs.size (.tup [x, y, t]) :=
      ⟨by show 3 ≤ sizeLine; decide, [u, u2, u3], .cons ru (.cons ru2 (.cons ru3 .nil)), ⟨_, hT2, rfl, _, rfl⟩⟩
    have I1 : Inv X pins σ (upd H s.heap.objs.size (.tup [x, y, t])) { s with heap := h'', toks := tk } :=
      I.turnedNew (t' := tk) (ch := [z, TI, TO, i1, i2, i3]) (fun c o hb q => (sb.2 c (fun q' => hb (by simp [q']))).trans (hk c o (fun q' => hb (by simp [q'])) (fun q' => hb (by simp [q'])) (fun q' => hb (by simp [q'])) (fun q' => hb (by simp [q'])) (fun q' => hb (by simp [q'])) q)) hf (Nat.le_refl _) new
    refine ⟨.ref s.heap.objs.size, _, I1, rfl, ⟨_, x, y, t, rfl, I.hok.fresh (Nat.le_refl _), rfl, fun l hl => by rw [I.list_inj hl hqx]; exact hx, fun l hl => by rw [I.list_inj hl hqy]; exact hy, fun l hl => by rw [I.list_inj hl hqz]; exact ht⟩, ⟨z'', ?_, ⟨u, u2, u3, ?_⟩, ?_, ?_, ?_⟩, fun c hcm => ?_⟩
    · exact (sb.2 _ D.TIz).trans (hk _ _ D.TIz D.TITO D.TIi1 D.TIi2 D.TIi3 hTI)
    · exact (sb.2 _ D.TOz).trans TO'
    · exact s1'.1.at fun o q => (sb.2 _ fun e => D.zf1 (by simp [e])).trans q
    · exact s2'.1.at fun o q => (sb.2 _ fun e => D.zf2 (by simp [e])).trans q
    · exact s3'.1.at fun o q => (sb.2 _ fun e => D.zf3 (by simp [e])).trans q
    · have hlt : c < s.heap.objs.size := by
        have e' : c = z ∨ c = TI ∨ c = TO ∨ c = i1 ∨ c = i2 ∨ c = i3 := by simpa using hcm
        rcases e' with q | q | q | q | q | q
        · rw [q]; exact hzl
        · rw [q]; exact Heap.lt_size hTI
        · rw [q]; exact Heap.lt_size hTO
        · rw [q]; obtain ⟨_, e1, _⟩ := h1; exact Heap.lt_size e1
        · rw [q]; obtain ⟨_, e2, _⟩ := h2; exact Heap.lt_size e2
        · rw [q]; obtain ⟨_, e3, _⟩ := h3; exact Heap.lt_size e3
      rw [upd_ne (Nat.ne_of_lt hlt)]
      exact (hf c hcm).1
  done := by
    intro X hP hw hK hc i pins s σ H E I hf st hg
    subst hP hw hK
    obtain ⟨hz, hTI, ⟨x0, y0, u0, hTO⟩, h1, h2, h3⟩ := st
    obtain ⟨xs, ys, zs, hqx, hqy, hqz, e1, e2, e3, hend⟩ := hg
    obtain ⟨its, rv, p, _⟩ := I.list hqx
    obtain ⟨its2, rv2, p2, _⟩ := I.list hqy
    obtain ⟨its3, rv3, p3, _⟩ := I.list hqz
    have l1 := rv.length
    have l2 := rv2.length
    have l3 := rv3.length
    have D1 := Draws.list (prog := X.prog) (w := X.w) (A := X.A.in1) (I.ok.hd hc) i1 a n1 its.toArray
    have D2 := Draws.list (prog := X.prog) (w := X.w) (A := X.A.in1) (I.ok.hd hc) i2 b n2 its2.toArray
    have D3 := Draws.list (prog := X.prog) (w := X.w) (A := X.A.in1) (I.ok.hd hc) i3 c n3 its3.toArray
    exact wpAny_pyNext_zipD3_end D D1 D2 D3 hz hTI hTO ⟨h1, p.isList⟩ ⟨h2, p2.isList⟩ ⟨h3, p3.isList⟩ (by simp; omega) (by simp; omega) (by simp; omega) (by simp; omega) fun h' tk hk => ⟨rfl, I.turnedL (t' := tk) (ch := [z, TI, TO, i1, i2, i3]) (fun c o hb q =>
      hk c o (fun q' => hb (by simp [q'])) (fun q' => hb (by simp [q'])) (fun q' => hb (by simp [q'])) (fun q' => hb (by simp [q'])) (fun q' => hb (by simp [q'])) q) hf⟩
  self := fun A i s Q E st h => wpAny_pyIter_zip st.1 h
def iZip3 (K : PySem.W.Frag) (ta : TA) : TI := fun σ H R => ta σ H fun vs H1 => ∃ a b c xs ys zs, vs = [.ref a, .ref b, .ref c] ∧ SqL K H1 a xs ∧ SqL K H1 b ys ∧ SqL K H1 c zs ∧ R (Itz3 K a b c) H1
theorem pi_zip3 {X : Cx} {e e2 e3 : Expr} {ta : TA} {p pos tpos : Pos} {elts : List Expr} {kk : Nat} (hg : Gl X "zip") (hm : X.mg "zip" = none) (ha : PA X [e, e2, e3] ta)
    (hs : starEach [e, e2, e3] X.env = (false, eval e X.env) :: starEach [e2, e3] X.env) (hpl : (backTo pos (starEach [e2, e3] X.env)).any (·.1) = false) :
    PI X (.Tuple elts kk tpos) (.Call (.Name "zip" p) [e, e2, e3] [] pos) (iZip3 X.K ta) := by
  refine ⟨fun pins s σ H R I h => ?_⟩
  refine Call_ (ld_blt I hg hm PyProof.Rows.boot_zip (PyProof.Rows.callWith_type1 (thn (ha.run pos pins s σ H _ I h) fun us s1 ⟨vs, H1, I1, r1, q1⟩ => ?_) hs hpl))
  obtain ⟨a, b, c, xs, ys, zs, ex, hqx, hqy, hqz, q⟩ := q1
  subst ex
  cases r1 with
  | cons r rr =>
    cases rr with
    | cons r' rr =>
      cases rr with
      | cons r'' rr =>
        cases rr
        cases r
        cases r'
        cases r''
        have fresh6 : ∀ c, c ∈ [s1.heap.objs.size + 5, s1.heap.objs.size + 3, s1.heap.objs.size + 4, s1.heap.objs.size, s1.heap.objs.size + 1, s1.heap.objs.size + 2] → FpOk X pins H1 c := fun c hcm => by
          have e' : c = s1.heap.objs.size + 5 ∨ c = s1.heap.objs.size + 3 ∨ c = s1.heap.objs.size + 4 ∨ c = s1.heap.objs.size ∨ c = s1.heap.objs.size + 1 ∨ c = s1.heap.objs.size + 2 := by simpa using hcm
          have hle : s1.heap.objs.size ≤ c := by
            rcases e' with z | z | z | z | z | z
            · rw [z]; exact Nat.le_add_right _ _
            · rw [z]; exact Nat.le_add_right _ _
            · rw [z]; exact Nat.le_add_right _ _
            · rw [z]; exact Nat.le_refl _
            · rw [z]; exact Nat.le_add_right _ _
            · rw [z]; exact Nat.le_add_right _ _
          exact I1.fpOk hle (I1.hok.fresh hle)
        obtain ⟨its, rv, p1, _⟩ := I1.list hqx
        obtain ⟨its2, rv2, p2, _⟩ := I1.list hqy
        obtain ⟨its3, rv3, p3, _⟩ := I1.list hqz
        refine zip_begins3 (begins_list a its.toArray) (begins_list b its2.toArray) (begins_list c its3.toArray) p1.isList p2.isList p3.isList fun h' hz hTI hTO g1 g2 g3 hsz hk => wpAny_pyIter_zip hz ?_
        have I2 : Inv X pins σ H1 { s1 with heap := h' } := I1.kept (t' := s1.toks) hk
        have la := p1.lt
        have lb := p2.lt
        have lc := p3.lt
        exact ⟨s1.heap.objs.size + 5, [s1.heap.objs.size + 5, s1.heap.objs.size + 3, s1.heap.objs.size + 4, s1.heap.objs.size, s1.heap.objs.size + 1, s1.heap.objs.size + 2], _, _, H1, rfl, I2,
          turn_zip3 (zip_sep3 (N := s1.heap.objs.size) (fp1 := [a]) (fp2 := [b]) (fp3 := [c]) (by simpa using la) (by simpa using lb) (by simpa using lc)) (Nat.ne_of_lt la) (Nat.ne_of_lt (Nat.lt_succ_of_lt lb)) (Nat.ne_of_lt (Nat.lt_succ_of_lt (Nat.lt_succ_of_lt lc))),
          ⟨hz, hTI, ⟨_, _, _, hTO⟩, ⟨_, g1, rfl, rfl⟩, ⟨_, g2, rfl, rfl⟩, ⟨_, g3, rfl, rfl⟩⟩, fresh6, q⟩
end LR

set_option Elab.async false
set_option linter.all false
set_option maxRecDepth 100000
set_option maxHeartbeats 4000000
namespace LR
open PySem PySem.Spec PyProof.Rows L2
/-! ### {k: v}, k a tuple -/
def tDisp1N (X : Cx) (tk tv : TE) : TE := fun σ H Q => ∀ p, H p = none → tk σ (upd H p (NdO X.prog X.w p [])) fun y H1 => tv σ H1 fun u H2 =>
  ∃ k b, H2 p = some (NdO X.prog X.w p []) ∧ y = .ref b ∧ KAt X.K H2 k y ∧ k.depth ≤ 8 ∧ Q (.ref p) (upd H2 p (NdO X.prog X.w p [(k, b, u)]))
theorem pe_disp1N {X : Cx} {k v : Expr} {pos : Pos} {tk tv : TE} (hu : X.A.units + 64 < cLine) (hk : PE X k tk) (hv : PE X v tv) : PE X (.Dict [some k] [v] pos) (tDisp1N X tk tv) := by
  refine ⟨fun pins s σ H Q I q => ?_⟩
  have hn := I.hok.fresh (Nat.le_refl s.heap.objs.size)
  have I1 : Inv X pins σ (upd H s.heap.objs.size (NdO X.prog X.w s.heap.objs.size [])) ⟨s.heap.push { cls := .type "dict", data := .dict #[] }, s.gens, s.drawn, s.toks, s.os⟩ := I.laid (a := s.heap.objs.size) (o := NdO X.prog X.w s.heap.objs.size []) (t' := s.toks) (fun _ _ q => Heap.get?_push_of_some _ q) (Nat.le_refl _)
    (ndO_ok (beq_eq_false_iff_ne.mpr (Ne.symm (Nat.ne_of_lt I.big))) (Nat.zero_le _) .nil (Heap.get?_push_size _ rfl) ⟨rfl, rfl, rfl⟩ rfl rfl List.nodup_nil)
  have hsh := zip_pairTrees [some k] [v] X.env pos rfl rfl
  rw [arm_eval_Dict, hsh, dictDisplay_pairs (pairTrees [some k] [v] X.env pos) (by simp [pairTrees]) (by simp [pairTrees])]
  refine wpAny_bind (wpAny_standAt (wpAny_bind (wpAny_subDictH (knd := nestedKind X.prog X.w) (by show X.A.units + 8 < cLine; omega) (by simp [pairTrees]) ?_)))
  refine pairTrees_cons_walk (thn (hk.run pins _ σ _ _ I1 (q _ hn)) fun u s1 ⟨x, H1, I1', rx, q1⟩ => thn (hv.run pins s1 σ H1 _ I1' q1) fun w2 s2 ⟨y, H2, I2, ry, kk, b, ep, ex, hka, h8, q2⟩ => ?_)
  subst ex
  cases (show u = Value.ref b from rx)
  have N : NdAt X H2 s.heap.objs.size [] := ⟨ep, fun e he => nomatch he⟩
  obtain ⟨hd, _, xs, r, dd⟩ := N.told I2
  cases r
  refine pairTrees_nil_walk ⟨[(kk, b, w2)], ⟨rfl, rfl, nk_is I2 hka h8, trivial⟩, dd, fun h' tk dd' hs => ?_⟩
  refine wpAny_pure ⟨.ref s.heap.objs.size, _, ?_, rfl, q2⟩
  obtain ⟨qo, es', ep', hq, h2, h3, h4, _, h5⟩ := (show h'.DictOfH (nestedKind X.prog X.w) s.heap.objs.size [(kk, b, w2)] from dd')
  exact d_write I2 (by rw [ep]; exact True.intro) hs ⟨qo, hq⟩ (ndO_ok hd (by show 1 ≤ sizeLine; decide) (.cons ⟨rfl, rfl, ry⟩ .nil) hq h2 h3 h4 h5)
end LR

set_option Elab.async false
set_option linter.all false
set_option maxRecDepth 100000
set_option maxHeartbeats 4000000
namespace LR
open PySem PySem.Spec PyProof.Rows L2
open PySem.W (kxs_mw kxs_getMethod kxs_ValueError kxs_callWith KxsAt ks_loadName_global ksFn ksEnv check_bound_init exc_init_tree ks_superIn)
/-! ### an own exception whose __init__ says super().__init__('..') and keeps one field -/
structure SupD where
  fI : Addr
  cc : Addr
  cda : Addr
  name : Str
  qual : Str
  params : Arguments
  scope : Scope
  dV : Value
  kV : Value
  doc : Value
  pm : Value
  ct : Value
  an : Option Addr
  oc : Value
  od : Option Addr
  osl : Array (Option Value)
  vs : Array Value
  file : Str
  tf : Tok
  co : Value
  cod : Option Addr
  cos : Array (Option Value)
  ce : Value
  ced : Option Addr
  ces : Array (Option Value)
  cd : ClassData
  body : List Stmt
  n0 : Str
  n1 : Str
  ar : Arg
  bm : List Value
structure SupF (P : Program) (K : PySem.W.Frag) (mg : Str → Option Value) (C : Addr) (fld : Str) (D : SupD) : Prop where
  T : OexC K C
  iC : PySem.W.findIn K (.ref C) "__init__" = some (some (.ref D.fI))
  tI : PySem.W.typeIn K (.ref D.fI) = some (.type "function")
  lk : K.lookup D.fI = some ⟨D.oc, D.od, .func (ksFn D.name D.qual D.params D.body D.scope D.dV D.kV D.doc D.pm D.an (.ref D.cda) D.ct D.cc), D.osl⟩
  cd : PySem.W.codeIn K (.ref D.cda) D.qual = true
  code : K.lookup D.cda = some ⟨D.co, D.cod, .fields D.vs, D.cos⟩
  vs : D.vs[2]? = some (.str D.file D.tf)
  file : ((P.main.file : Str) == D.file) = true
  cell : K.lookup D.cc = some ⟨D.ce, D.ced, .cell (some (.ref C)), D.ces⟩
  cls : PySem.W.clsIn K C = some D.cd
  sub : PySem.W.mroIn K C (.ref C) = some true
  mgs : mg "super" = none
  sup : ks_superIn K C C "__init__" = some (some (.builtin "ValueError.__init__"))
  sbV : PySem.W.subIn K (.ref C) (.type "ValueError") = some true
  kv : PySem.W.kitOne K (.ref C) (.type "ValueError") = some true
  opq : PySem.W.nsIn K cStatics "thirdparty.any" = some none
  nof : PySem.W.findIn K (.ref C) fld = some none
  body : ∃ (p0 p1 p2 p3 p4 p5 p6 p7 p8 p9 : Pos) (msg : Str) (j : Nat), (p2.endLine == p4.line) = true ∧ D.body = [.Expr (.Call (.Attribute (.Call (.Name "super" p0) [] [] p1) "__init__" p2) [.Constant (.str msg) j p3] [] p4) p5, .Assign [.Attribute (.Name D.n0 p6) fld p7] (.Name D.n1 p8) p9]
  hd : (D.params.posonlyargs ++ D.params.args).head? = some D.ar
  arn : D.ar.arg = D.n0
  nn : D.n0 ≠ D.n1
  b0 : (D.n0 == ("__debug__" : Str)) = false
  b1 : (D.n1 == ("__debug__" : Str)) = false
  kind : D.scope.kind = .function
  co : D.scope.isCoroutine = false
  gen : D.scope.isGenerator = false
  nocell : ∀ x ∈ D.scope.names, x.2 ≠ .cell
  l0 : D.scope.names.lookup D.n0 = some .local
  l1 : D.scope.names.lookup D.n1 = some .local
  ls : D.scope.names.lookup ("super" : Str) = some .globalImplicit
  lc : D.scope.names.lookup ("__class__" : Str) = some .free
  top : (P.main.scope.names.lookup ("super" : Str)).isSome = false
/-- o.m(e, ..) with its base as it is told -/
theorem ht_base {o : Expr} {m : Str} {args : List Expr} {apos pos : Pos} {env : Env}
    (hform : methodCallForm args.length (backTo pos (starEach args env)) (backToKw pos (keywordEach [] env)) = true) (hline : (apos.endLine == pos.line) = true) :
    eval (.Call (.Attribute o m apos) args [] pos) env = (do
      let ov ← attributeBase o m env (eval o env)
      standAt apos.atName
      let (f, first) ← holding [ov] (getMethod ov m (do return (← importBound o env).getD true))
      callWith pos f first (backTo pos (starEach args env)) []) := by
  have hp : methodCallPos true o env apos pos = pure pos := by
    unfold methodCallPos
    rw [hline]
    rfl
  rw [arm_eval_Call]
  unfold methodCall
  have hlen : args.length + ([] : List Keyword).length = args.length := rfl
  rw [hlen, hform, hp]
  rfl
theorem init_raw {P : Program} {w : World} {K : PySem.W.Frag} {mg : Str → Option Value} {base : Heap} {C : Addr} {fld : Str} {D : SupD} (F : SupF P K mg C fld D) (M : Mod K mg base) {A : Around} {s : Shared} (kb : ∀ b o, base.get? b = some o → s.heap.get? b = some o) (hroom : A.depth < recursionLimit)
    {a t1 : Addr} (hna : base.get? a = none) (ha : s.heap.get? a = some ({ cls := .ref C, dict := none, data := .fields #[.ref t1, .none, .none, .none, .bool false, .none] } : Obj)) {u : Value} {args : Args}
    (hb : BindsTo s (ksFn D.name D.qual D.params D.body D.scope D.dV D.kV D.doc D.pm D.an (.ref D.cda) D.ct D.cc) args [(D.n0, .ref a), (D.n1, u)]) {R : Result → Shared → Prop}
    (hq : ∀ h' tk dx t2, (∀ b o, b ≠ a → s.heap.get? b = some o → h'.get? b = some o) → s.heap.objs.size ≤ dx → dx ≠ a → h'.get? a = some ({ cls := .ref C, dict := some dx, data := .fields #[.ref t2, .none, .none, .none, .bool false, .none] } : Obj) →
      h'.Ns1 dx (fun y => if y = fld then some u else none) → R (.ok (.ret .none)) { s with heap := h', toks := tk }) :
    codeAny (model P w) A (.call (.ref D.fI) args) R s := by
  have X : K.In s.heap := M.kin.keeps kb
  obtain ⟨p0, p1, p2, p3, p4, p5, p6, p7, p8, p9, msg, j, hln, eb⟩ := F.body
  obtain ⟨nm, q, N, bs, bm, sn, sub, ab, col, dd, k0, k1, k2, k3, k5, hC, hbm⟩ := F.T.cls
  have hcl : PySem.W.clsIn K C = some { name := nm, bases := bs, mro := .ref C :: bm, ns := N, qualname := q, hasDict := true, slotNames := sn, subclasses := sub, abstract := ab, collection := col, hasDel := false } := by unfold PySem.W.clsIn; rw [hC] <;> rfl
  obtain ⟨mb, hmb1, hmb2⟩ := M.blt
  have aL : a ≠ s.heap.objs.size := Nat.ne_of_lt (Heap.lt_size ha)
  obtain ⟨h, g, d, t, os⟩ := s
  refine ks_codeAny_call_defAt (fd := ksFn D.name D.qual D.params D.body D.scope D.dV D.kV D.doc D.pm D.an (.ref D.cda) D.ct D.cc) (body := D.body) (binds := [(D.n0, .ref a), (D.n1, u)]) hroom (X _ _ F.lk) rfl (M.nolimit.keeps kb) (PySem.W.codeRec_of X F.cd) rfl hb F.nocell (fun x hx => ?_) (fun h₀ hns hk => ?_) F.co F.gen F.kind
  · simp only [List.mem_cons, List.not_mem_nil, or_false] at hx
    rcases hx with rfl | rfl
    · exact F.l0
    · exact F.l1
  · have X0 : K.In h₀ := X.keeps hk
    have ha0 := hk _ _ ha
    obtain ⟨oD, hD1, hD2⟩ : ∃ oD, h₀.get? C = some oD ∧ oD.data = .cls _ := ⟨_, X0 _ _ hC, rfl⟩
    have hm0 : (fun x => ([(D.n0, Value.ref a), (D.n1, u)] : List (Str × Value)).reverse.lookup x) D.n0 = some (.ref a) := by
      simp [List.lookup_cons, beq_false_of_ne F.nn]
    have hm1 : (fun x => ([(D.n0, Value.ref a), (D.n1, u)] : List (Str × Value)).reverse.lookup x) D.n1 = some u := by
      simp [List.lookup_cons]
    generalize (fun x => ([(D.n0, Value.ref a), (D.n1, u)] : List (Str × Value)).reverse.lookup x) = mL at hns hm0 hm1
    show PySem.wpAt _ _ (.func D.body (ksEnv D.qual D.scope h.objs.size D.fI (.ref D.cda) D.cc)) (execs D.body (ksEnv D.qual D.scope h.objs.size D.fI (.ref D.cda) D.cc)) _ _ _
    generalize hcode : Code.func D.body (ksEnv D.qual D.scope h.objs.size D.fI (.ref D.cda) D.cc) = cX
    rw [eb]
    have hint : interactive (ksEnv D.qual D.scope h.objs.size D.fI (.ref D.cda) D.cc) = false := by unfold interactive; rw [show (ksEnv D.qual D.scope h.objs.size D.fI (.ref D.cda) D.cc).scope.kind = .function from F.kind]; rfl
    refine ks_wpAt_execs_cons (ks_wpAt_Expr_any (ks_wpAt_MethodCall ?_ (ht_base (by rfl) hln)) hint)
    subst hcode
    refine ks_wpAt_super_base (env := ksEnv D.qual D.scope h.objs.size D.fI (.ref D.cda) D.cc) F.ls F.lc (by decide) rfl (X0 _ _ F.lk) rfl F.hd rfl (X0 _ _ F.code) rfl F.vs F.file F.top ?_
    have kb0 : ∀ b o, base.get? b = some o → h₀.get? b = some o := fun b o e => hk _ _ (kb b o e)
    refine ks_loadName_global F.kind F.ls (Calls.loadGlobal_builtin (env := ksEnv D.qual D.scope h.objs.size D.fI (.ref D.cda) D.cc) (M.glob.keeps kb0) F.mgs (hmb1.keeps kb0) ((hmb2 _ (by decide +kernel)).trans PyProof.Rows.Boot.«super») ⟨rfl, ?_⟩)
    refine wpAny_loadName_free F.kind F.lc rfl ⟨_, X0 _ _ F.cell, rfl⟩ ?_
    refine wpAny_loadName_local F.kind (by show D.scope.names.lookup D.ar.arg = _; rw [F.arn]; exact F.l0) hns (by rw [F.arn]; exact hm0) ?_
    refine ks_wpAny_isType_cls hD1 hD2 ⟨rfl, ?_⟩
    refine ks_wpAny_call_super hD1 hD2 ha0 rfl (fun c z => by cases z) (PySem.W.looks_mroIn X0 F.sub) (fun h1 e1 k1 => ?_)
    have X1 : K.In h1 := X0.keeps k1
    have ha1 := k1 _ _ ha0
    have I1 : PySem.W.InstAt h1 a { cls := .ref C, dict := none, data := .fields #[.ref t1, .none, .none, .none, .bool false, .none] } C none := ⟨ha1, rfl, rfl, trivial⟩
    have hI : PySem.W.Looks (model P w) h1 (isInstance (.ref a) (.type "ValueError")) true := I1.type.andThen (PySem.W.looks_subIn X1 F.sbV)
    have hsup := F.sup
    unfold ks_superIn at hsup
    rw [hcl] at hsup
    refine kxs_getMethod kxs_ValueError e1 (PySem.W.looks_opaque X1 F.opq) (l₀ := .ref C :: bm) ?_ rfl X1 hsup hI (PySem.W.ks_ne X1 I1 hcl) (by decide) ?_
    · exact fun A Q E s k q => wpAny_bind ((PySem.W.looks_clsIn X1 hcl) A _ E s k (wpAny_pure q))
    · have up2 : ∀ b o, h1.get? b = some o → (h1.push (kxs_mw "ValueError.__init__" a)).get? b = some o := fun b o e => Heap.get?_push_of_some _ e
      have hu2 : (h1.push (kxs_mw "ValueError.__init__" a)).get? h1.objs.size = some (kxs_mw "ValueError.__init__" a) := Heap.get?_push_at rfl rfl
      generalize h1.push (kxs_mw "ValueError.__init__" a) = h2 at up2 hu2
      have ha2 := up2 _ _ ha1
      have X2 : K.In h2 := X1.keeps up2
      show wpAny _ _ (callWith p4 (.ref h1.objs.size) [] (backTo p4 (starEach [.Constant (.str msg) j p3] _)) []) _ _ _
      refine kxs_callWith (i := "ValueError.__init__") (x := a) rfl (Calls.evalArgs_plain (Calls.spliced_cons (Calls.Constant_str (pos := p3) (k := j) (Calls.spliced_nil ⟨hu2, ?_⟩))))
      show wpAny _ _ (call (.ref h1.objs.size) [.str msg (t + 2 + 1)]) _ _ _
      refine wpAny_call (codeAny_of_tree ?_)
      show wpAny _ (Around.in1 _) (callAny (.ref h1.objs.size) ⟨[.str msg _], []⟩) _ _ _
      simp only [callAny]
      refine wpAny_bind (wpAny_load hu2 ?_)
      simp only [kxs_mw, show (Value.type "method-wrapper" == Value.type "method" || Value.type "method-wrapper" == Value.type "builtin_function_or_method" || Value.type "method-wrapper" == Value.type "method-wrapper") = true by decide, if_true]
      refine PySem.W.KFB.if_so (by decide) ?_
      refine wpAny_bind (check_bound_init PySem.F.excBase_ValueError.toExcCallFacts (X2 _ _ hC) ha2 rfl ?_)
      refine wpAny_bind (wpAny_pure (wpAny_pure ?_))
      refine ⟨plainId_quiet PySem.F.excBase_ValueError.init.plain _, codeAny_builtin PySem.F.excBase_ValueError.initEntry ?_⟩
      refine exc_init_tree (cls := .ref C) (t0 := t1) (dv := none) (c2 := .none) (c3 := .none) (b4 := .bool false) ha2 (by show 1 ≤ sizeLine; decide) (fun h3 k3' e3 _ => ?_)
      have upA : ∀ b o, b ≠ a → h.get? b = some o → h3.get? b = some o := fun b o hb e => k3' _ _ hb (up2 _ _ (k1 _ _ (hk _ _ e)))
      have X3 : K.In h3 := fun b o e => upA _ _ (fun z => by
        have := M.kin _ _ e
        rw [z, hna] at this
        cases this) (X _ _ e)
      have hns3 : h3.Ns h.objs.size mL := hns.at fun o e => k3' _ _ (Ne.symm aL) (up2 _ _ (k1 _ _ e))
      generalize hN : h2.objs.size = t3 at e3
      refine ks_wpAt_execs_cons (ks_wpAt_Assign_Attr (wpAt_of_wpAny (wpAny_Name (wpAny_loadName_local F.kind F.l1 hns3 hm1 (wpAny_Name (wpAny_loadName_local F.kind F.l0 hns3 hm0 ?_) F.b0)) F.b1)) (by rfl))
      refine PySem.W.set_plain X3 (ox := { cls := .ref C, dict := none, data := .fields #[.ref t3, .none, .none, .none, .bool false, .none] }) (od := none) ⟨e3, rfl, rfl, trivial⟩ F.T.sa ?_
      refine PySem.HandSPX.exc_osa X3 e3 hcl (show PySem.HandSPX.refsVE (.ref C :: bm) = true from hbm) rfl F.nof (fun h' tk' dx k dn dne hx hn => ?_)
      have ha3 : a < h.objs.size := Heap.lt_size ha
      refine wpAt_of_wpAny (wpAny_execs_nil ?_)
      refine hq h' _ dx t3 (fun b o hb e => k _ _ hb (upA _ _ hb e)) ?_ dne hx hn
      exact Nat.le_trans (Nat.le_of_lt hns3.lt) dn
/-- what such an __init__ does -/
def spSup (C : Addr) (fld : Str) : Sp := fun vs H Q _ => ∃ (a : Addr) (v : V), vs = [.ref a, v] ∧ H a = some (exo a C none) ∧ ∀ dx, H dx = none → dx ≠ a → Q .non (upd (upd H dx (exd dx [(fld, v)])) a (exo a C (some dx)))
abbrev SupD.fd (D : SupD) : FuncData := ksFn D.name D.qual D.params D.body D.scope D.dV D.kV D.doc D.pm D.an (.ref D.cda) D.ct D.cc
theorem sup_fn {P : Program} {w : World} {K : PySem.W.Frag} {mg : Str → Option Value} {base : Heap} {C : Addr} {fld : Str} {D : SupD} (F : SupF P K mg C fld D) : FnOk P w K mg base (L2.CX P w) 0 D.fI D.fd [D.n0, D.n1] (spSup C fld) := by
  refine ⟨fun vs H Q E ⟨a, v, e, _⟩ => by rw [e]; rfl, fun A outer s H args us vs Q E hr e0 hb r hsp => ?_⟩
  obtain ⟨a, v, rfl, ea, hq⟩ := hsp
  obtain ⟨u, rfl, rv⟩ : ∃ u, us = [.ref a, u] ∧ RelV v u := by
    cases r with
    | cons r1 r2 =>
      cases r2 with
      | cons r3 r4 =>
        cases r4
        cases (show _ = Value.ref a from r1)
        exact ⟨_, rfl, r3⟩
  obtain ⟨t1, ho⟩ := exo_at e0.hok ea
  have hna : base.get? a = none := by
    cases hz : base.get? a with
    | none => rfl
    | some o =>
      have := (e0.bs a o hz).2
      rw [ea] at this
      cases this
  refine init_raw F e0.mod (fun b o e => (e0.bs b o e).1) hr.depth hna ho hb fun h' tk dx t2 k dn dne hx hn => ?_
  have hnd : H dx = none := e0.hok.fresh dn
  have nd : ∀ {b : Addr} {o : Obj}, s.heap.get? b = some o → b ≠ dx := fun {b o} q => Nat.ne_of_lt (Nat.lt_of_lt_of_le (Heap.lt_size q) dn)
  have na : ∀ {b : Addr}, H b = none → b ≠ a := fun {b} n z => by
    rw [z, ea] at n
    cases n
  refine ⟨.non, _, rfl, e0.bare, ?_, ?_, rfl, hq dx hnd dne⟩
  · exact {
      keep := fun b o q n _ _ => k b o (na n) q
      slot := fun b o q n _ _ => ⟨o.slots, k b o (na n) q⟩
      free := fun b o q n _ => by rw [upd_ne (na n), upd_ne (nd q)]; exact n
      there := fun b o q _ => by
        by_cases hb : b = a
        · exact ⟨_, by rw [hb]; exact hx⟩
        · exact ⟨o, k b o hb q⟩
      tups := fun b xs q => by rw [upd_ne (at_ne ea q exo_tup), upd_ne (ne_of_none q hnd)]; exact q
      frzs := fun b o v q => by rw [upd_ne (at_ne ea q exo_frz), upd_ne (ne_of_none q hnd)]; exact q
      tbls := fun b ps q => ⟨#[], by rw [upd_ne (at_ne ea q exo_tbl), upd_ne (ne_of_none q hnd), q]; simp⟩ }
  · intro b o q
    by_cases hb : b = a
    · subst hb
      rw [upd_same] at q
      cases q
      exact exo_ok hx
    · rw [upd_ne hb] at q
      by_cases hd : b = dx
      · subst hd
        rw [upd_same] at q
        cases q
        exact exd_ok hn (relO_put (fs := []) rv fun g => True.intro)
      · rw [upd_ne hd] at q
        exact (e0.hok b o q).stay (fun c v hc z => k c v (by
            rcases hc with hc | hc
            · rw [hc]
              exact hb
            · exact at_ne ea hc exo_own) z)
          (fun c hc => by rw [upd_ne (at_ne ea hc exo_own), upd_ne (ne_of_none hc hnd)]; exact hc) (fun c xs hc => by rw [upd_ne (at_ne ea hc exo_tup), upd_ne (ne_of_none hc hnd)]; exact hc)
/-- X(e) -/
def kSup (C : Addr) (fld : Str) (Q : XK) : VK := fun v H1 => ∀ a, H1 a = none → spSup C fld (.ref a :: ([v] ++ [])) (upd H1 a (exo a C none))
  (fun v H2 => v = .non ∧ ∃ (d : Addr) (fs : List (Str × V)), H2 a = some (exo a C (some d)) ∧ H2 d = some (exd d fs) ∧ H1 d = none ∧ Q (.ref C) (some d) (upd (del H2 a) d (.xd fs))) (fun _ _ _ => False)
theorem kSup_of {C : Addr} {fld : Str} {Q : XK} {v : V} {H1 : Hp} (h : ∀ dx, H1 dx = none → Q (.ref C) (some dx) (upd H1 dx (.xd [(fld, v)]))) : kSup C fld Q v H1 := fun a ha => by
  refine ⟨a, v, rfl, upd_same, fun dx hd hne => ⟨rfl, dx, [(fld, v)], upd_same, ?_, ?_, ?_⟩⟩
  · rw [upd_ne hne, upd_same]
  · rw [upd_ne hne] at hd
    exact hd
  · rw [upd_ne hne] at hd
    have e : upd (del (upd (upd (upd H1 a (exo a C none)) dx (exd dx [(fld, v)])) a (exo a C (some dx))) a) dx (.xd [(fld, v)]) = upd H1 dx (.xd [(fld, v)]) := by
      funext b
      by_cases hb : b = dx
      · subst hb
        rw [upd_same, upd_same]
      · rw [upd_ne hb, upd_ne hb]
        by_cases hba : b = a
        · subst hba
          rw [del_same, ha]
        · rw [del_ne hba, upd_ne hba, upd_ne hb, upd_ne hba]
    rw [e]
    exact h dx hd
def tMkS (C : Addr) (fld : Str) (te : TE) : L2.St → Hp → XK → Prop := fun σ H Q => te σ H (kSup C fld Q)
theorem pmk_sup {X : Cx} {C : Addr} {fld x : Str} {D : SupD} {e : Expr} {te : TE} {p pos : Pos} (F : SupF X.prog X.K X.mg C fld D) (hr : Room 1 X.A) (hb : Binds X.K D.fd [D.n0, D.n1] []) (hg : Gl X x) (hm : X.mg x = some (.ref C)) (he : PE X e te)
    (himp : ∀ σ H (Q Q' : VK), (∀ v H, Q v H → Q' v H) → te σ H Q → te σ H Q')
    (hx : Passes (L2.CX X.prog X.w) X (fun _ _ _ => False)) (hdb : (x == ("__debug__" : Str)) = false) (hst : starEach [e] X.env = (false, eval e X.env) :: starEach [] X.env) : PMk X (.Call (.Name x p) [e] [] pos) (tMkS C fld te) := by
  have h := pmk_oex (x := x) (p := p) (pos := pos) F.T F.iC F.tI (sup_fn F (w := X.w) (base := X.base)) hr hb .nil hx hg hm (pa_cons he pa_nil hst) hdb hst rfl
  intro pins s σ H Q I q
  exact h pins s σ H Q I (himp σ H _ _ (fun v H1 k => ⟨by show 1 ≤ 1000; decide, fun a ha => k a ha⟩) q)
end LR

set_option Elab.async false
set_option linter.all false
set_option maxRecDepth 100000
set_option maxHeartbeats 4000000
/-! A small evaluator of data, and its world over the layer's heap. -/
namespace LR
open PySem PySem.Spec PyProof.Rows L2

/-! ### data -/
inductive D where
  | non | bl (b : Bool) | int (i : Int) | str (s : Str) | tup (l : List D) | lst (l : List D) | scr (l : List D) | ref (n : Nat)
instance : Inhabited D := ⟨.non⟩
inductive Cell where
  | dead | lst (l : List D) | ins (C : Str) (fs : List (Str × D)) | dic (kvs : List (NK × D))
abbrev Mem := List Cell
def Cell.alive : Cell → Bool
  | .dead => false
  | _ => true
mutual
def D.py : D → PyData
  | .non => .none
  | .bl b => .bool b
  | .int i => .int i
  | .str s => .str s
  | .tup l => .tuple (pys l)
  | .lst l => .list (pys l)
  | .scr _ => .dict []
  | .ref _ => .dict []
def pys : List D → List PyData
  | [] => []
  | d :: l => d.py :: pys l
end
/-- a cell's list, read where it stands -/
def D.deref (m : Mem) : D → D
  | .ref n => match m[n]? with
    | some (.lst l) => .lst l
    | _ => .ref n
  | d => d
def D.flat : D → Bool
  | .non | .bl _ | .int _ | .str _ => true
  | _ => false
/-- == of flat data -/
def eqF : D → D → Bool
  | .non, .non => true
  | .bl a, .bl b => a == b
  | .bl a, .int b => (if a then 1 else 0) == b
  | .int a, .bl b => a == (if b then 1 else 0)
  | .int a, .int b => a == b
  | .str a, .str b => a == b
  | _, _ => false

/-! ### keys -/
mutual
def nkD : D → Option NK
  | .non => some .none
  | .bl b => some (.num (if b = true then 1 else 0))
  | .int i => some (.num i)
  | .str s => some (.text s)
  | .tup l => (nkDs l).map .tup
  | _ => none
def nkDs : List D → Option (List NK)
  | [] => some []
  | d :: l => (nkD d).bind fun k => (nkDs l).map (k :: ·)
end
/-- the class' addresses by name, the program, the world outside -/
structure Cn where
  ad : Str → Addr
  P : Program
  w : World
  T : List (Addr × Str) := []
/-- not one of the tables of code objects, no code object of a lambda -/
def NtO (o : HO) : Prop := (∀ ps, o ≠ .tbl ps) ∧ ∀ c q, o ≠ LamX.CodeO c q
theorem nt_lst {xs : List V} : NtO (.lst xs) := ⟨fun ps z => (by cases z), fun c q z => (by unfold LamX.CodeO at z; cases z)⟩
theorem nt_ins {C dx : Addr} {fs : List (Str × V)} : NtO (.ins C dx fs) := ⟨fun ps z => (by cases z), fun c q z => (by unfold LamX.CodeO at z; cases z)⟩
theorem nt_nd {P : Program} {w : World} {a : Addr} {es : List NE} : NtO (NdO P w a es) := ⟨fun ps z => (by unfold NdO at z; cases z), fun c q z => by
  unfold NdO LamX.CodeO at z
  injection z with z
  let o1 : Obj := { cls := .none, data := .fields #[.none, .str q default] }
  let h : Heap := { objs := Array.replicate (c + 1) o1 }
  have get : ∀ b, b ≤ c → h.get? b = some o1 := fun b hb => by
    have : h.objs[b]? = some o1 := by
      show (Array.replicate (c + 1) o1)[b]? = _
      rw [Array.getElem?_replicate, if_pos (Nat.lt_succ_of_le hb)]
    unfold Heap.get?
    rw [this]
  have get2 : ∀ b o, h.get? b = some o → o = o1 := fun b o e => by
    by_cases hb : b ≤ c
    · rw [get b hb] at e; cases e; rfl
    · have : h.objs[b]? = none := by
        show (Array.replicate (c + 1) o1)[b]? = _
        rw [Array.getElem?_replicate, if_neg (fun z => hb (Nat.le_of_lt_succ z))]
      unfold Heap.get? at e
      rw [this] at e
      cases e
  have hc : ∃ (oc : Obj) (vs : Array Value) (t : Tok), h.get? c = some oc ∧ oc.data = .fields vs ∧ vs[1]? = some (.str q t) := ⟨o1, _, default, get c (Nat.le_refl _), rfl, rfl⟩
  have hz := congrFun z h
  rw [← hz] at hc
  obtain ⟨_, _, xs, _, o, es', ep, h1, _, h3, _⟩ := hc
  rw [get2 _ _ h1] at h3
  cases h3⟩
theorem tabs_upd {T : List (Addr × Str)} {H : Hp} {a : Addr} {o o' : HO} (t : LamX.Tabs T H) (e : H a = some o) (n : NtO o) : LamX.Tabs T (upd H a o') := fun p hp => by
  obtain ⟨ps, h1, h2, h3⟩ := t p hp
  have hne : p.1 ≠ a := fun z => by rw [z, e] at h1; exact n.1 ps (Option.some.inj h1)
  refine ⟨ps, by rw [upd_ne hne]; exact h1, h2, fun pos cv hc => ?_⟩
  obtain ⟨c, e1, e2⟩ := h3 pos cv hc
  have hca : c ≠ a := fun z => by rw [z, e] at e2; exact n.2 _ _ (Option.some.inj e2)
  exact ⟨c, e1, by rw [upd_ne hca]; exact e2⟩
theorem tabs_new {T : List (Addr × Str)} {H : Hp} {a : Addr} {o' : HO} (t : LamX.Tabs T H) (e : H a = none) : LamX.Tabs T (upd H a o') := t.ext fun b o h => (upd_ne (ne_of_none h e)).trans h
/-! ### the world: the abstract heap, the addresses of the cells, the cells, the addresses that grow -/
structure Wd where
  H : Hp
  M : List Addr
  m : Mem
  X : List Addr
def Wd.live (w : Wd) (a : Addr) : Prop := ∃ (n : Nat) (c : Cell), w.M[n]? = some a ∧ w.m[n]? = some c ∧ c.alive = true
/-- a tuple that stands still -/
def FzT (K : PySem.W.Frag) (w : Wd) (a : Addr) (xs : List V) : Prop :=
  (Rd w.H a (.tup xs) ∧ ¬ w.live a ∧ a ∉ w.X) ∨
    ∃ (o : Obj) (its : Array Value) (n : Nat), K.lookup a = some o ∧ o.cls = .type "tuple" ∧ o.data = .seq its n ∧ its.size ≤ sizeLine ∧ Vals xs its.toList
def FzL (w : Wd) (a : Addr) (xs : List V) : Prop := w.H a = some (.lst xs) ∧ ¬ w.live a ∧ a ∉ w.X
def FzS (K : PySem.W.Frag) (w : Wd) (a : Addr) (xs : List V) : Prop :=
  (Rd w.H a (.lst xs) ∧ ¬ w.live a ∧ a ∉ w.X) ∨
    ∃ (o : Obj) (its : Array Value) (n : Nat), K.lookup a = some o ∧ o.cls = .type "list" ∧ o.dict = none ∧ o.data = .seq its n ∧ its.size ≤ sizeLine ∧ Vals xs its.toList
mutual
inductive Rv (K : PySem.W.Frag) (w : Wd) : V → D → Prop
  | non : Rv K w .non .non
  | bl (b : Bool) : Rv K w (.bl b) (.bl b)
  | int (i : Int) : Rv K w (.int i) (.int i)
  | str (s : Str) : Rv K w (.str s) (.str s)
  | tup {a : Addr} {xs : List V} {ds : List D} : FzT K w a xs → Rvs K w xs ds → Rv K w (.ref a) (.tup ds)
  | lst {a : Addr} {xs : List V} {ds : List D} : FzL w a xs → Rvs K w xs ds → Rv K w (.ref a) (.lst ds)
  | scr {a : Addr} {xs : List V} {ds : List D} : FzS K w a xs → Rvs K w xs ds → Rv K w (.ref a) (.scr ds)
  | ref {a : Addr} {n : Nat} : w.M[n]? = some a → Rv K w (.ref a) (.ref n)
inductive Rvs (K : PySem.W.Frag) (w : Wd) : List V → List D → Prop
  | nil : Rvs K w [] []
  | cons {v : V} {vs : List V} {d : D} {ds : List D} : Rv K w v d → Rvs K w vs ds → Rvs K w (v :: vs) (d :: ds)
end
inductive RFs (K : PySem.W.Frag) (w : Wd) : List (Str × V) → List (Str × D) → Prop
  | nil : RFs K w [] []
  | cons {x : Str} {v : V} {vs : List (Str × V)} {d : D} {ds : List (Str × D)} : Rv K w v d → RFs K w vs ds → RFs K w ((x, v) :: vs) ((x, d) :: ds)
/-- an entry of a dict: its key's tuple stands still -/
def DicE (K : PySem.W.Frag) (w : Wd) (e : NE) (kv : NK × D) : Prop := e.1 = kv.1 ∧ e.1.depth ≤ 8 ∧ (∃ ds, Rv K w (.ref e.2.1) (.tup ds) ∧ nkD (.tup ds) = some e.1) ∧ Rv K w e.2.2 kv.2
/-- what a cell holds; the classes' addresses by name: cn -/
def CellOk (K : PySem.W.Frag) (cn : Cn) (w : Wd) (a : Addr) : Cell → Prop
  | .dead => True
  | .lst ds => ∃ xs, w.H a = some (.lst xs) ∧ Rvs K w xs ds
  | .ins C fs => ∃ dx fs', w.H a = some (.ins (cn.ad C) dx fs') ∧ RFs K w fs' fs
  | .dic kvs => ∃ es : List NE, w.H a = some (NdO cn.P cn.w a es) ∧ Paired (DicE K w) es kvs
structure RM (K : PySem.W.Frag) (cn : Cn) (w : Wd) : Prop where
  len : w.M.length = w.m.length
  nd : w.M.Nodup
  dom : ∀ a, a ∈ w.M → ∃ o, w.H a = some o ∧ NtO o
  domX : ∀ a, a ∈ w.X → ∃ o, w.H a = some o ∧ NtO o
  apart : ∀ a, a ∈ w.X → a ∉ w.M
  cell : ∀ (n : Nat) (c : Cell) (a : Addr), w.m[n]? = some c → w.M[n]? = some a → CellOk K cn w a c
  tabs : LamX.Tabs cn.T w.H
theorem cellOk_nt {K : PySem.W.Frag} {cn : Cn} {w : Wd} {a : Addr} {c : Cell} (h : CellOk K cn w a c) (hal : c.alive = true) : ∃ o, w.H a = some o ∧ NtO o := by
  cases c with
  | dead => cases hal
  | lst ds => obtain ⟨xs, h1, _⟩ := h; exact ⟨_, h1, nt_lst⟩
  | ins C fs => obtain ⟨dx, fs', h1, _⟩ := h; exact ⟨_, h1, nt_ins⟩
  | dic kvs => obtain ⟨es, h1, _⟩ := h; exact ⟨_, h1, nt_nd⟩
/-- from one world to a later one: weak (the growing lists may change), strong -/
structure Fw (w w' : Wd) : Prop where
  pre : ∃ more, w'.M = w.M ++ more
  old : ∀ a o, w.H a = some o → ¬ w.live a → a ∉ w.X → (∀ ps, o ≠ .tbl ps) → w'.H a = some o ∧ ¬ w'.live a ∧ a ∉ w'.X
structure Fr (w w' : Wd) : Prop where
  wk : Fw w w'
  same : w'.X = w.X
  keep : ∀ a, a ∈ w.X → w'.H a = w.H a
theorem Fw.refl (w : Wd) : Fw w w := ⟨⟨[], by simp⟩, fun _ _ h n x _ => ⟨h, n, x⟩⟩
theorem Fw.trans {w w1 w2 : Wd} (a : Fw w w1) (b : Fw w1 w2) : Fw w w2 := by
  obtain ⟨x, hx⟩ := a.pre
  obtain ⟨y, hy⟩ := b.pre
  refine ⟨⟨x ++ y, by rw [hy, hx, List.append_assoc]⟩, fun c o h n q nt => ?_⟩
  obtain ⟨h1, n1, x1⟩ := a.old c o h n q nt
  exact b.old c o h1 n1 x1 nt
theorem Fr.refl (w : Wd) : Fr w w := ⟨Fw.refl w, rfl, fun _ _ => rfl⟩
theorem Fr.trans {w w1 w2 : Wd} (a : Fr w w1) (b : Fr w1 w2) : Fr w w2 :=
  ⟨a.wk.trans b.wk, b.same.trans a.same, fun c h => (b.keep c (by rw [a.same]; exact h)).trans (a.keep c h)⟩
theorem Fw.at {w w' : Wd} (f : Fw w w') {n : Nat} {a : Addr} (h : w.M[n]? = some a) : w'.M[n]? = some a := by
  obtain ⟨x, hx⟩ := f.pre
  rw [hx, List.getElem?_append_left (List.getElem?_eq_some_iff.mp h).1]
  exact h
section
variable {K : PySem.W.Frag} {cn : Cn} {w w' : Wd}
theorem FzT.mono {a : Addr} {xs : List V} (f : Fw w w') (h : FzT K w a xs) : FzT K w' a xs := by
  rcases h with ⟨r, n, x⟩ | h
  · refine .inl ?_
    rcases r with r | ⟨o, r⟩
    · obtain ⟨h1, n1, x1⟩ := f.old a _ r n x (fun ps z => by cases z)
      exact ⟨.inl h1, n1, x1⟩
    · obtain ⟨h1, n1, x1⟩ := f.old a _ r n x (fun ps z => by cases z)
      exact ⟨.inr ⟨o, h1⟩, n1, x1⟩
  · exact .inr h
theorem FzL.mono {a : Addr} {xs : List V} (f : Fw w w') (h : FzL w a xs) : FzL w' a xs := by
  obtain ⟨r, n, x⟩ := h
  obtain ⟨h1, n1, x1⟩ := f.old a _ r n x (fun ps z => by cases z)
  exact ⟨h1, n1, x1⟩
theorem FzS.mono {a : Addr} {xs : List V} (f : Fw w w') (h : FzS K w a xs) : FzS K w' a xs := by
  rcases h with ⟨r, n, x⟩ | h
  · refine .inl ?_
    rcases r with r | ⟨o, r⟩
    · obtain ⟨h1, n1, x1⟩ := f.old a _ r n x (fun ps z => by cases z)
      exact ⟨.inl h1, n1, x1⟩
    · obtain ⟨h1, n1, x1⟩ := f.old a _ r n x (fun ps z => by cases z)
      exact ⟨.inr ⟨o, h1⟩, n1, x1⟩
  · exact .inr h
mutual
theorem Rv.mono (f : Fw w w') : ∀ {v : V} {d : D}, Rv K w v d → Rv K w' v d
  | _, _, .non => .non
  | _, _, .bl b => .bl b
  | _, _, .int i => .int i
  | _, _, .str s => .str s
  | _, _, .tup h r => .tup (h.mono f) (Rvs.mono f r)
  | _, _, .lst h r => .lst (h.mono f) (Rvs.mono f r)
  | _, _, .scr h r => .scr (h.mono f) (Rvs.mono f r)
  | _, _, .ref h => .ref (f.at h)
theorem Rvs.mono (f : Fw w w') : ∀ {vs : List V} {ds : List D}, Rvs K w vs ds → Rvs K w' vs ds
  | _, _, .nil => .nil
  | _, _, .cons h r => .cons (Rv.mono f h) (Rvs.mono f r)
end
theorem RFs.mono (f : Fw w w') : ∀ {vs : List (Str × V)} {ds : List (Str × D)}, RFs K w vs ds → RFs K w' vs ds
  | _, _, .nil => .nil
  | _, _, .cons h r => .cons (h.mono f) (RFs.mono f r)
theorem Rvs.length : ∀ {vs : List V} {ds : List D}, Rvs K w vs ds → vs.length = ds.length
  | _, _, .nil => rfl
  | _, _, .cons _ r => congrArg (· + 1) (Rvs.length r)
theorem Rvs.get : ∀ {vs : List V} {ds : List D} {i : Nat} {d : D}, Rvs K w vs ds → ds[i]? = some d → ∃ v, vs[i]? = some v ∧ Rv K w v d
  | _, _, _, _, .nil, e => by simp at e
  | _, _, 0, _, .cons r _, e => by simp at e; subst e; exact ⟨_, rfl, r⟩
  | _, _, i + 1, d, .cons _ t, e => by
    obtain ⟨v, h1, h2⟩ := Rvs.get (i := i) (d := d) t (by simpa using e)
    exact ⟨v, by simpa using h1, h2⟩
theorem Rvs.getV : ∀ {vs : List V} {ds : List D} {i : Nat} {v : V}, Rvs K w vs ds → vs[i]? = some v → ∃ d, ds[i]? = some d ∧ Rv K w v d
  | _, _, _, _, .nil, e => by simp at e
  | _, _, 0, _, .cons r _, e => by simp at e; subst e; exact ⟨_, rfl, r⟩
  | _, _, i + 1, v, .cons _ t, e => by
    obtain ⟨d, h1, h2⟩ := Rvs.getV (i := i) (v := v) t (by simpa using e)
    exact ⟨d, by simpa using h1, h2⟩
theorem Rvs.append : ∀ {xs ys : List V} {ds es : List D}, Rvs K w xs ds → Rvs K w ys es → Rvs K w (xs ++ ys) (ds ++ es)
  | _, _, _, _, .nil, s => s
  | _, _, _, _, .cons r t, s => .cons r (Rvs.append t s)
theorem Rvs.drop : ∀ {xs : List V} {ds : List D} (n : Nat), Rvs K w xs ds → Rvs K w (xs.drop n) (ds.drop n)
  | _, _, 0, r => r
  | _, _, _ + 1, .nil => .nil
  | _, _, n + 1, .cons _ t => Rvs.drop n t
theorem Rvs.take : ∀ {xs : List V} {ds : List D} (n : Nat), Rvs K w xs ds → Rvs K w (xs.take n) (ds.take n)
  | _, _, 0, _ => .nil
  | _, _, _ + 1, .nil => .nil
  | _, _, n + 1, .cons r t => .cons r (Rvs.take n t)
theorem Rvs.set {v : V} {d : D} (r : Rv K w v d) : ∀ {xs : List V} {ds : List D} (i : Nat), Rvs K w xs ds → Rvs K w (xs.set i v) (ds.set i d)
  | _, _, _, .nil => .nil
  | _, _, 0, .cons _ t => .cons r t
  | _, _, i + 1, .cons q t => .cons q (Rvs.set r i t)
theorem Rvs.reverse : ∀ {xs : List V} {ds : List D}, Rvs K w xs ds → Rvs K w xs.reverse ds.reverse
  | _, _, .nil => .nil
  | _, _, .cons r t => by
    rw [List.reverse_cons, List.reverse_cons]
    exact (Rvs.reverse t).append (.cons r .nil)
theorem Rvs.dropLast {xs : List V} {ds : List D} (r : Rvs K w xs ds) : Rvs K w xs.dropLast ds.dropLast := by
  rw [List.dropLast_eq_take, List.dropLast_eq_take, r.length]
  exact r.take _
theorem Rvs.ints : ∀ {xs : List V} {ns : List Int}, Rvs K w xs (ns.map .int) → xs = ns.map V.int
  | _, [], .nil => rfl
  | _, n :: ns, .cons r t => by
    cases r
    rw [Rvs.ints t]
    rfl
theorem Rvs.ofInts : ∀ (ns : List Int), Rvs K w (ns.map V.int) (ns.map D.int)
  | [] => .nil
  | n :: ns => .cons (.int n) (Rvs.ofInts ns)
theorem Rvs.bls : ∀ {xs : List V} {ns : List Bool}, Rvs K w xs (ns.map .bl) → xs = ns.map V.bl
  | _, [], .nil => rfl
  | _, n :: ns, .cons r t => by
    cases r
    rw [Rvs.bls t]
    rfl
theorem Rvs.strs : ∀ {xs : List V} {ns : List Str}, Rvs K w xs (ns.map .str) → xs = ns.map V.str
  | _, [], .nil => rfl
  | _, n :: ns, .cons r t => by
    cases r
    rw [Rvs.strs t]
    rfl
theorem Rvs.ofStrs : ∀ (ns : List Str), Rvs K w (ns.map V.str) (ns.map D.str)
  | [] => .nil
  | n :: ns => .cons (.str n) (Rvs.ofStrs ns)
theorem FzT.sq {a : Addr} {xs : List V} (h : FzT K w a xs) : SqT K w.H a xs := by
  rcases h with ⟨r, _, _⟩ | h
  · exact .inl r
  · exact .inr h
theorem FzL.sq {a : Addr} {xs : List V} (h : FzL w a xs) : SqL K w.H a xs := .inl (.inl h.1)
theorem FzS.sq {a : Addr} {xs : List V} (h : FzS K w a xs) : SqL K w.H a xs := by
  rcases h with ⟨r, _, _⟩ | h
  · exact .inl r
  · exact .inr h
mutual
theorem Rv.dp (hs : ∀ d : PyData, True) : ∀ {v : V} {d : D}, Rv K w v d → PyData.canLay0 d.py = true → Dp K w.H v d.py
  | _, _, .non, _ => by simp only [D.py]; exact .non
  | _, _, .bl b, _ => by simp only [D.py]; exact .bl b
  | _, _, .int i, _ => by simp only [D.py]; exact .int i
  | _, _, .str s, _ => by simp only [D.py]; exact .str s
  | _, _, .tup h r, c => by
    simp only [D.py, PyData.canLay0] at c ⊢
    exact .tup h.sq (Rvs.dp hs r c)
  | _, _, .lst h r, c => by
    simp only [D.py, PyData.canLay0] at c ⊢
    exact .lst h.sq (Rvs.dp hs r c)
  | _, _, .scr h r, c => by simp [D.py, PyData.canLay0] at c
  | _, _, .ref h, c => by simp [D.py, PyData.canLay0] at c
theorem Rvs.dp (hs : ∀ d : PyData, True) : ∀ {vs : List V} {ds : List D}, Rvs K w vs ds → PyData.canLayAll0 (pys ds) = true → DpAll K w.H vs (pys ds)
  | _, _, .nil, _ => by simp only [pys]; exact .nil
  | _, _, .cons h r, c => by
    simp only [pys, PyData.canLayAll0, Bool.and_eq_true] at c ⊢
    exact .cons (Rv.dp hs h c.1) (Rvs.dp hs r c.2)
end
theorem Rv.flat {v : V} {d : D} (h : Rv K w v d) (hf : d.flat = true) : flatV v = true := by
  cases h
  all_goals first | rfl | (exfalso; simp [D.flat] at hf; done)
theorem Rv.eqF {v v' : V} {d d' : D} (h : Rv K w v d) (h' : Rv K w v' d') (f : d.flat = true) (f' : d'.flat = true) : eqV v v' = LR.eqF d d' := by
  cases h
  all_goals first | (exfalso; simp [D.flat] at f; done) | (cases h' <;> first | (exfalso; simp [D.flat] at f'; done) | rfl)
theorem Rvs.flats : ∀ {vs : List V} {ds : List D}, Rvs K w vs ds → ds.all D.flat = true → vs.all flatV = true
  | _, _, .nil, _ => rfl
  | _, _, .cons h r, c => by
    simp only [List.all_cons, Bool.and_eq_true] at c ⊢
    exact ⟨h.flat c.1, r.flats c.2⟩
theorem Rvs.inF {x : V} {d : D} (hx : Rv K w x d) (fx : d.flat = true) : ∀ {vs : List V} {ds : List D}, Rvs K w vs ds → ds.all D.flat = true → inV x vs = ds.any (fun y => LR.eqF y d)
  | _, _, .nil, _ => rfl
  | _, _, .cons h r, c => by
    simp only [List.all_cons, Bool.and_eq_true] at c
    show (eqV _ x || inV x _) = _
    rw [List.any_cons, h.eqF hx c.1 fx, r.inF hx fx c.2]

/-! ### fresh objects -/
/-- nothing is known at a, or a table -/
def Free (w : Wd) (a : Addr) : Prop := ∀ o, w.H a = some o → ∃ ps, o = .tbl ps
theorem Free.of {w : Wd} {a : Addr} (h : w.H a = none) : Free w a := fun o e => by rw [h] at e; cases e
theorem RM.notXF (r : RM K cn w) {p : Addr} (h : Free w p) : p ∉ w.X := fun hm => by
  obtain ⟨o, e, n⟩ := r.domX p hm
  obtain ⟨ps, z⟩ := h o e
  exact n.1 ps z

theorem RM.notM (r : RM K cn w) {p : Addr} (h : w.H p = none) : p ∉ w.M := fun hm => by
  obtain ⟨o, e, _⟩ := r.dom p hm
  rw [h] at e; cases e
theorem RM.notX (r : RM K cn w) {p : Addr} (h : w.H p = none) : p ∉ w.X := fun hm => by
  obtain ⟨o, e, _⟩ := r.domX p hm
  rw [h] at e; cases e
theorem notlive {p : Addr} (hm : p ∉ w.M) : ¬ w.live p := fun ⟨n, c, h, _⟩ => hm (List.mem_of_getElem? h)
/-- the cells stay good along a frame -/
theorem CellOk.mono {a : Addr} {c : Cell} (f : Fw w w') (e : w'.H a = w.H a) (h : CellOk K cn w a c) : CellOk K cn w' a c := by
  cases c with
  | dead => trivial
  | lst ds => obtain ⟨xs, h1, h2⟩ := h; exact ⟨xs, by rw [e]; exact h1, h2.mono f⟩
  | ins C fs => obtain ⟨dx, fs', h1, h2⟩ := h; exact ⟨dx, fs', by rw [e]; exact h1, h2.mono f⟩
  | dic kvs =>
    obtain ⟨es, h1, h2⟩ := h
    refine ⟨es, by rw [e]; exact h1, Paired.mapP h2 fun x kv q => ?_⟩
    obtain ⟨q1, q2, ⟨ds, q3, q4⟩, q5⟩ := q
    exact ⟨q1, q2, ⟨ds, q3.mono f, q4⟩, q5.mono f⟩
/-- a new still object -/
abbrev Wd.put (w : Wd) (p : Addr) (o : HO) : Wd := { w with H := upd w.H p o }
theorem live_put {p a : Addr} {o : HO} : (w.put p o).live a ↔ w.live a := Iff.rfl
theorem Fr.put (r : RM K cn w) {p : Addr} {o : HO} (h : w.H p = none) : Fr w (w.put p o) :=
  ⟨⟨⟨[], by simp⟩, fun a u e n x _ => ⟨by show upd w.H p o a = _; rw [upd_ne (ne_of_none e h)]; exact e, n, x⟩⟩, rfl, fun a hx => upd_ne (fun z : a = p => r.notX h (z ▸ hx))⟩
theorem RM.put (r : RM K cn w) {p : Addr} {o : HO} (h : w.H p = none) : RM K cn (w.put p o) := by
  have hne : ∀ a, a ∈ w.M → a ≠ p := fun a ha e => r.notM h (e ▸ ha)
  refine ⟨r.len, r.nd, fun a ha => ?_, fun a ha => ?_, r.apart, fun n c a hc ha => ?_, tabs_new r.tabs h⟩
  · obtain ⟨u, e, nu⟩ := r.dom a ha
    exact ⟨u, by show upd w.H p o a = _; rw [upd_ne (hne a ha)]; exact e, nu⟩
  · obtain ⟨u, e, nu⟩ := r.domX a ha
    exact ⟨u, by show upd w.H p o a = _; rw [upd_ne (ne_of_none e h)]; exact e, nu⟩
  · exact (r.cell n c a hc ha).mono (Fr.put r h).wk (by show upd w.H p o a = _; rw [upd_ne (hne a (List.mem_of_getElem? ha))])
theorem Rv.newTup (r : RM K cn w) {p : Addr} {xs : List V} {ds : List D} (h : w.H p = none) (hr : Rvs K w xs ds) : Rv K (w.put p (.tup xs)) (.ref p) (.tup ds) :=
  .tup (.inl ⟨.inl upd_same, notlive (r.notM h), r.notX h⟩) (hr.mono (Fr.put r h).wk)
theorem Rv.newLst (r : RM K cn w) {p : Addr} {xs : List V} {ds : List D} (h : w.H p = none) (hr : Rvs K w xs ds) : Rv K (w.put p (.lst xs)) (.ref p) (.lst ds) :=
  .lst ⟨upd_same, notlive (r.notM h), r.notX h⟩ (hr.mono (Fr.put r h).wk)
/-- a new cell -/
abbrev Wd.alloc (w : Wd) (p : Addr) (o : HO) (c : Cell) : Wd := { w with H := upd w.H p o, M := w.M ++ [p], m := w.m ++ [c] }
theorem live_alloc (r : RM K cn w) {p a : Addr} {o : HO} {c : Cell} (hne : a ≠ p) : (w.alloc p o c).live a ↔ w.live a := by
  constructor
  · rintro ⟨n, c', h1, h2, h3⟩
    have h1 : (w.M ++ [p])[n]? = some a := h1
    have h2 : (w.m ++ [c])[n]? = some c' := h2
    by_cases hn : n < w.M.length
    · rw [List.getElem?_append_left hn] at h1
      rw [List.getElem?_append_left (by rw [← r.len]; exact hn)] at h2
      exact ⟨n, c', h1, h2, h3⟩
    · rw [List.getElem?_append_right (by omega)] at h1
      have : [p][n - w.M.length]? = some a := h1
      cases e : n - w.M.length with
      | zero => rw [e] at this; simp at this; exact absurd this.symm hne
      | succ k => rw [e] at this; simp at this
  · rintro ⟨n, c', h1, h2, h3⟩
    exact ⟨n, c', by show (w.M ++ [p])[n]? = _; rw [List.getElem?_append_left (List.getElem?_eq_some_iff.mp h1).1]; exact h1,
      by show (w.m ++ [c])[n]? = _; rw [List.getElem?_append_left (List.getElem?_eq_some_iff.mp h2).1]; exact h2, h3⟩
theorem Fr.alloc (r : RM K cn w) {p : Addr} {o : HO} {c : Cell} (h : w.H p = none) : Fr w (w.alloc p o c) :=
  ⟨⟨⟨[p], rfl⟩, fun a u e n x _ => ⟨by show upd w.H p o a = _; rw [upd_ne (ne_of_none e h)]; exact e, fun l => n ((live_alloc r (ne_of_none e h)).mp l), x⟩⟩, rfl, fun a hx => upd_ne (fun z : a = p => r.notX h (z ▸ hx))⟩
theorem RM.alloc (r : RM K cn w) {p : Addr} {o : HO} {c : Cell} (h : w.H p = none) (hc : CellOk K cn (w.alloc p o c) p c) (hal : c.alive = true := by rfl) : RM K cn (w.alloc p o c) := by
  have hne : ∀ a, a ∈ w.M → a ≠ p := fun a ha e => r.notM h (e ▸ ha)
  refine ⟨by show (w.M ++ [p]).length = (w.m ++ [c]).length; rw [List.length_append, List.length_append, r.len]; rfl, ?_, fun a ha => ?_, fun a ha => ?_, fun a ha hm => ?_, fun n c' a h1 h2 => ?_, tabs_new r.tabs h⟩
  · show (w.M ++ [p]).Nodup
    rw [List.nodup_append]
    exact ⟨r.nd, by simp, fun a ha b hb => by simp at hb; subst hb; exact hne a ha⟩
  · have ha : a ∈ w.M ++ [p] := ha
    rcases List.mem_append.mp ha with ha | ha
    · obtain ⟨u, e, nu⟩ := r.dom a ha
      exact ⟨u, by show upd w.H p o a = _; rw [upd_ne (hne a ha)]; exact e, nu⟩
    · simp at ha; subst ha; exact cellOk_nt hc hal
  · obtain ⟨u, e, nu⟩ := r.domX a ha
    exact ⟨u, by show upd w.H p o a = _; rw [upd_ne (ne_of_none e h)]; exact e, nu⟩
  · have hm : a ∈ w.M ++ [p] := hm
    rcases List.mem_append.mp hm with hm | hm
    · exact r.apart a ha hm
    · simp at hm; subst hm; exact r.notX h ha
  · have h1 : (w.m ++ [c])[n]? = some c' := h1
    have h2 : (w.M ++ [p])[n]? = some a := h2
    by_cases hn : n < w.M.length
    · rw [List.getElem?_append_left hn] at h2
      rw [List.getElem?_append_left (by rw [← r.len]; exact hn)] at h1
      exact (r.cell n c' a h1 h2).mono (Fr.alloc r h).wk (by show upd w.H p o a = _; rw [upd_ne (hne a (List.mem_of_getElem? h2))])
    · rw [List.getElem?_append_right (by omega)] at h2
      rw [List.getElem?_append_right (by rw [← r.len]; omega)] at h1
      rw [← r.len] at h1
      cases e : n - w.M.length with
      | zero =>
        rw [e] at h1 h2
        simp at h1 h2
        subst h1 h2
        exact hc
      | succ k => rw [e] at h2; simp at h2
/-- a cell is written -/
abbrev Wd.wr (w : Wd) (n : Nat) (a : Addr) (o : HO) (c : Cell) : Wd := { w with H := upd w.H a o, m := w.m.set n c }
theorem inj_at {l : List Addr} (nd : l.Nodup) {i j : Nat} {x : Addr} (a : l[i]? = some x) (b : l[j]? = some x) : i = j := by
  obtain ⟨h1, e1⟩ := List.getElem?_eq_some_iff.mp a
  obtain ⟨h2, e2⟩ := List.getElem?_eq_some_iff.mp b
  exact (List.getElem_inj nd).mp (e1.trans e2.symm)
theorem Fr.wr (r : RM K cn w) {n : Nat} {a : Addr} {o : HO} {c c0 : Cell} (hM : w.M[n]? = some a) (h0 : w.m[n]? = some c0) (hal : c0.alive = true) : Fr w (w.wr n a o c) := by
  refine ⟨⟨⟨[], by simp⟩, fun b u e nl x _ => ?_⟩, rfl, fun b hx => upd_ne (fun z : b = a => r.apart b hx (z ▸ List.mem_of_getElem? hM))⟩
  have hne : b ≠ a := fun z => nl ⟨n, c0, by rw [z]; exact hM, h0, hal⟩
  refine ⟨by show upd w.H a o b = _; rw [upd_ne hne]; exact e, ?_, x⟩
  rintro ⟨k, c', h1, h2, h3⟩
  have h2 : (w.m.set n c)[k]? = some c' := h2
  by_cases hk : k = n
  · subst hk
    rw [hM] at h1
    exact hne (Option.some.inj h1).symm
  · rw [List.getElem?_set_ne (Ne.symm hk)] at h2
    exact nl ⟨k, c', h1, h2, h3⟩
theorem RM.wr (r : RM K cn w) {n : Nat} {a : Addr} {o : HO} {c c0 : Cell} (hM : w.M[n]? = some a) (h0 : w.m[n]? = some c0) (hal : c0.alive = true) (hc : CellOk K cn (w.wr n a o c) a c) (hal2 : c.alive = true := by rfl) : RM K cn (w.wr n a o c) := by
  have ham : a ∈ w.M := List.mem_of_getElem? hM
  refine ⟨by show w.M.length = (w.m.set n c).length; rw [List.length_set]; exact r.len, r.nd, fun b hb => ?_, fun b hb => ?_, r.apart, fun k c' b h1 h2 => ?_, ?_⟩
  · by_cases hba : b = a
    · subst hba; exact cellOk_nt hc hal2
    · obtain ⟨u, e, nu⟩ := r.dom b hb
      exact ⟨u, by show upd w.H a o b = _; rw [upd_ne hba]; exact e, nu⟩
  · obtain ⟨u, e, nu⟩ := r.domX b hb
    have hba : b ≠ a := fun z => r.apart b hb (z ▸ ham)
    exact ⟨u, by show upd w.H a o b = _; rw [upd_ne hba]; exact e, nu⟩
  · have h1 : (w.m.set n c)[k]? = some c' := h1
    have h2 : w.M[k]? = some b := h2
    by_cases hk : k = n
    · subst hk
      rw [hM] at h2
      cases h2
      rw [List.getElem?_set_self (List.getElem?_eq_some_iff.mp h0).1] at h1
      cases h1
      exact hc
    · rw [List.getElem?_set_ne (Ne.symm hk)] at h1
      have hba : b ≠ a := fun z => hk (inj_at r.nd (z ▸ h2) hM)
      exact (r.cell k c' b h1 h2).mono (Fr.wr r hM h0 hal).wk (by show upd w.H a o b = _; rw [upd_ne hba])
  · obtain ⟨u, e, nu⟩ := cellOk_nt (r.cell n c0 a h0 hM) hal
    exact tabs_upd r.tabs e nu
/-- a cell is given up: its list stands still from now on -/
abbrev Wd.kill (w : Wd) (n : Nat) : Wd := { w with m := w.m.set n .dead }
theorem live_kill {n : Nat} {a : Addr} (l : (w.kill n).live a) : w.live a ∧ w.M[n]? ≠ some a ∨ (w.live a ∧ ∃ k, k ≠ n ∧ w.M[k]? = some a) := by
  obtain ⟨k, c, h1, h2, h3⟩ := l
  have h2 : (w.m.set n .dead)[k]? = some c := h2
  by_cases hk : k = n
  · subst hk
    by_cases hl : k < w.m.length
    · rw [List.getElem?_set_self hl] at h2
      cases h2
      exact absurd h3 (by simp [Cell.alive])
    · rw [List.getElem?_eq_none (by simpa using hl)] at h2
      cases h2
  · rw [List.getElem?_set_ne (Ne.symm hk)] at h2
    exact .inr ⟨⟨k, c, h1, h2, h3⟩, k, hk, h1⟩
theorem Fr.kill {n : Nat} : Fr w (w.kill n) := ⟨⟨⟨[], by simp⟩, fun a o e nl x _ => ⟨e, fun l => nl ((live_kill l).elim (·.1) (·.1)), x⟩⟩, rfl, fun _ _ => rfl⟩
theorem RM.kill (r : RM K cn w) (n : Nat) : RM K cn (w.kill n) := by
  refine ⟨by show w.M.length = (w.m.set n .dead).length; rw [List.length_set]; exact r.len, r.nd, r.dom, r.domX, r.apart, fun k c' b h1 h2 => ?_, r.tabs⟩
  have h1 : (w.m.set n .dead)[k]? = some c' := h1
  by_cases hk : k = n
  · subst hk
    by_cases hl : k < w.m.length
    · rw [List.getElem?_set_self hl] at h1; cases h1; trivial
    · rw [List.getElem?_eq_none (by simpa using hl)] at h1; cases h1
  · rw [List.getElem?_set_ne (Ne.symm hk)] at h1
    exact (r.cell k c' b h1 h2).mono Fr.kill.wk rfl
theorem Rv.killed (r : RM K cn w) {n : Nat} {a : Addr} {ds : List D} (hM : w.M[n]? = some a) (hc : w.m[n]? = some (.lst ds)) : Rv K (w.kill n) (.ref a) (.lst ds) := by
  obtain ⟨xs, h1, h2⟩ := r.cell n _ a hc hM
  refine .lst ⟨h1, fun l => ?_, fun hx => r.apart a hx (List.mem_of_getElem? hM)⟩ (h2.mono Fr.kill.wk)
  rcases live_kill l with ⟨_, h⟩ | ⟨_, k, hk, h⟩
  · exact h hM
  · exact hk (inj_at r.nd h hM)
/-! ### a list that grows apart -/
abbrev Wd.grow (w : Wd) (p : Addr) (xs : List V) : Wd := { w with H := upd w.H p (.lst xs), X := p :: w.X }
theorem Fw.grow {p : Addr} {ys : List V} (h : w.H p = none) : Fw w (w.grow p ys) :=
  ⟨⟨[], by simp⟩, fun a o e n x _ => ⟨(upd_ne (ne_of_none e h)).trans e, n, by show a ∉ p :: w.X; simp [ne_of_none e h, x]⟩⟩
theorem Rv.grow {p : Addr} {ys : List V} (h : w.H p = none) {v : V} {d : D} (r : Rv K w v d) : Rv K (w.grow p ys) v d := r.mono (Fw.grow h)
theorem Rvs.grow {p : Addr} {ys : List V} (h : w.H p = none) {v : List V} {d : List D} (r : Rvs K w v d) : Rvs K (w.grow p ys) v d := r.mono (Fw.grow h)
theorem RM.grow (r : RM K cn w) {p : Addr} {ys : List V} (h : w.H p = none) : RM K cn (w.grow p ys) := by
  have hne : ∀ a, a ∈ w.M → a ≠ p := fun a ha e => r.notM h (e ▸ ha)
  refine ⟨r.len, r.nd, fun a ha => ?_, fun a ha => ?_, fun a ha hm => ?_, fun n c a hc ha => ?_, tabs_new r.tabs h⟩
  · obtain ⟨u, e, nu⟩ := r.dom a ha
    exact ⟨u, by show upd w.H p _ a = _; rw [upd_ne (hne a ha)]; exact e, nu⟩
  · have ha : a ∈ p :: w.X := ha
    rcases List.mem_cons.mp ha with rfl | ha
    · exact ⟨_, upd_same, nt_lst⟩
    · obtain ⟨u, e, nu⟩ := r.domX a ha
      exact ⟨u, by show upd w.H p _ a = _; rw [upd_ne (ne_of_none e h)]; exact e, nu⟩
  · have ha : a ∈ p :: w.X := ha
    rcases List.mem_cons.mp ha with rfl | ha
    · exact r.notM h hm
    · exact r.apart a ha hm
  · have e : (w.grow p ys).H a = w.H a := by show upd w.H p _ a = _; rw [upd_ne (hne a (List.mem_of_getElem? ha))]
    exact (r.cell n c a hc ha).mono (Fw.grow h) e
/-- what stands in a world with the growing list, when that list changes -/
abbrev Wd.regrow (w : Wd) (p : Addr) (xs : List V) : Wd := { w with H := upd w.H p (.lst xs) }
theorem Fw.regrow {p : Addr} {ys : List V} (h : p ∈ w.X) : Fw w (w.regrow p ys) :=
  ⟨⟨[], by simp⟩, fun a o e n x _ => ⟨(upd_ne (fun z : a = p => x (z ▸ h))).trans e, n, x⟩⟩
theorem RM.regrow (r : RM K cn w) {p : Addr} {ys : List V} (h : p ∈ w.X) : RM K cn (w.regrow p ys) := by
  have hne : ∀ a, a ∈ w.M → a ≠ p := fun a ha e => r.apart p h (e ▸ ha)
  refine ⟨r.len, r.nd, fun a ha => ?_, fun a ha => ?_, r.apart, fun n c a hc ha => ?_, by obtain ⟨u, e, nu⟩ := r.domX p h; exact tabs_upd r.tabs e nu⟩
  · obtain ⟨u, e, nu⟩ := r.dom a ha
    exact ⟨u, by show upd w.H p _ a = _; rw [upd_ne (hne a ha)]; exact e, nu⟩
  · by_cases e : a = p
    · subst e; exact ⟨_, upd_same, nt_lst⟩
    · obtain ⟨u, e', nu⟩ := r.domX a ha
      exact ⟨u, by show upd w.H p _ a = _; rw [upd_ne e]; exact e', nu⟩
  · have e : (w.regrow p ys).H a = w.H a := by show upd w.H p _ a = _; rw [upd_ne (hne a (List.mem_of_getElem? ha))]
    exact (r.cell n c a hc ha).mono (Fw.regrow h) e
/-- the growing list stands still from now on -/
abbrev Wd.ungrow (w : Wd) (X : List Addr) : Wd := { w with X := X }
theorem Fw.ungrow {X : List Addr} (hX : ∀ a, a ∈ X → a ∈ w.X) : Fw w (w.ungrow X) := ⟨⟨[], by simp⟩, fun a o e n x _ => ⟨e, n, fun z => x (hX a z)⟩⟩
theorem RM.ungrow {X : List Addr} (hX : ∀ a, a ∈ X → a ∈ w.X) (r : RM K cn w) : RM K cn (w.ungrow X) :=
  ⟨r.len, r.nd, r.dom, fun a ha => r.domX a (hX a ha), fun a ha => r.apart a (hX a ha), fun n c a hc ha => (r.cell n c a hc ha).mono (Fw.ungrow hX) rfl, r.tabs⟩
/-- a list apart becomes a cell -/
abbrev Wd.adopt (w : Wd) (p : Addr) (c : Cell) : Wd := { w with M := w.M ++ [p], m := w.m ++ [c] }
theorem live_adopt (r : RM K cn w) {p a : Addr} {c : Cell} (hne : a ≠ p) : (w.adopt p c).live a ↔ w.live a := by
  constructor
  · rintro ⟨n, c', h1, h2, h3⟩
    have h1 : (w.M ++ [p])[n]? = some a := h1
    have h2 : (w.m ++ [c])[n]? = some c' := h2
    by_cases hn : n < w.M.length
    · rw [List.getElem?_append_left hn] at h1
      rw [List.getElem?_append_left (by rw [← r.len]; exact hn)] at h2
      exact ⟨n, c', h1, h2, h3⟩
    · rw [List.getElem?_append_right (by omega)] at h1
      have : [p][n - w.M.length]? = some a := h1
      cases e : n - w.M.length with
      | zero => rw [e] at this; simp at this; exact absurd this.symm hne
      | succ k => rw [e] at this; simp at this
  · rintro ⟨n, c', h1, h2, h3⟩
    exact ⟨n, c', by show (w.M ++ [p])[n]? = _; rw [List.getElem?_append_left (List.getElem?_eq_some_iff.mp h1).1]; exact h1,
      by show (w.m ++ [c])[n]? = _; rw [List.getElem?_append_left (List.getElem?_eq_some_iff.mp h2).1]; exact h2, h3⟩
theorem Fw.adopt (r : RM K cn w) {p : Addr} {c : Cell} (h : p ∈ w.X) : Fw w (w.adopt p c) :=
  ⟨⟨[p], rfl⟩, fun a o e n x _ => ⟨e, fun l => n ((live_adopt r (fun z : a = p => x (z ▸ h))).mp l), x⟩⟩
theorem RM.adopted (r : RM K cn w) {p : Addr} {xs : List V} {ds : List D} {X : List Addr} (hX : w.X = p :: X) (hp : p ∉ X) (e : w.H p = some (.lst xs)) (rv : Rvs K w xs ds) : RM K cn ((w.adopt p (.lst ds)).ungrow X) := by
  have hpX : p ∈ w.X := by rw [hX]; exact List.mem_cons_self
  have sub : ∀ a, a ∈ X → a ∈ w.X := fun a ha => by rw [hX]; exact List.mem_cons_of_mem _ ha
  have f : Fw w ((w.adopt p (.lst ds)).ungrow X) := (Fw.adopt r hpX).trans (Fw.ungrow (w := w.adopt p (.lst ds)) sub)
  refine ⟨by show (w.M ++ [p]).length = (w.m ++ [Cell.lst ds]).length; rw [List.length_append, List.length_append, r.len]; rfl, ?_, fun a ha => ?_, fun a ha => r.domX a (sub a ha), fun a ha hm => ?_, fun n c' a h1 h2 => ?_, r.tabs⟩
  · show (w.M ++ [p]).Nodup
    rw [List.nodup_append]
    exact ⟨r.nd, by simp, fun a ha b hb => by simp at hb; subst hb; exact fun z => r.apart _ hpX (z ▸ ha)⟩
  · have ha : a ∈ w.M ++ [p] := ha
    rcases List.mem_append.mp ha with ha | ha
    · exact r.dom a ha
    · simp at ha; subst ha; exact ⟨_, e, nt_lst⟩
  · have ha : a ∈ X := ha
    have hm : a ∈ w.M ++ [p] := hm
    rcases List.mem_append.mp hm with hm | hm
    · exact r.apart a (sub a ha) hm
    · simp at hm; subst hm; exact hp ha
  · have h1 : (w.m ++ [Cell.lst ds])[n]? = some c' := h1
    have h2 : (w.M ++ [p])[n]? = some a := h2
    by_cases hn : n < w.M.length
    · rw [List.getElem?_append_left hn] at h2
      rw [List.getElem?_append_left (by rw [← r.len]; exact hn)] at h1
      exact (r.cell n c' a h1 h2).mono f rfl
    · rw [List.getElem?_append_right (by omega)] at h2
      rw [List.getElem?_append_right (by rw [← r.len]; omega)] at h1
      rw [← r.len] at h1
      cases e' : n - w.M.length with
      | zero =>
        rw [e'] at h1 h2
        simp at h1 h2
        subst h1 h2
        exact ⟨xs, e, rv.mono f⟩
      | succ k => rw [e'] at h2; simp at h2
end
end LR

set_option Elab.async false
set_option linter.all false
set_option maxRecDepth 100000
set_option maxHeartbeats 4000000
/-! lambdas whose exceptions bear no context -/
namespace LRN
open PySem PySem.Spec PyProof.Rows L2 LamX
/-- another wish of what leaves the code -/
theorem inv_xe {X : Cx} {xe' : Value → Shared → Prop} {pins : List (Addr × Obj)} {σ : L2.St} {H : Hp} {s : Shared} (I : L2.Inv X pins σ H s) : L2.Inv { X with xe := xe' } pins σ H s :=
  ⟨⟨I.ok.mod, I.ok.kind, I.ok.glob, I.ok.blt, I.ok.above, I.ok.inj, I.ok.has, I.ok.cab, I.ok.hd, I.ok.frames, I.ok.stk, I.ok.exf, I.ok.bs, I.ok.bsz, I.ok.noex, I.ok.exfs, I.ok.funs, I.ok.frf⟩, I.os, I.bare, I.base, I.loc, I.cell, I.free, I.freeC, I.pin, I.hok, I.len⟩
abbrev out (P : Program) (w : World) (A : Around) (env : Env) (outer : List Env) (H : Hp) (s : Shared) (E : XK) : Value → Shared → Prop := fun e s' => wpAny (model P w) A (leaving env e) (fun _ s'' => L2N.CX P w outer H s E e s'') (fun e' s'' => L2N.CX P w outer H s E e' s'') s'
abbrev lamCx (X : Cx) (A : Around) (outer : List Env) (s : Shared) (H : Hp) (E : XK) (scope : Scope) (f c' : Addr) : Cx :=
  { LamX.lamCx X A outer s H E scope f c' with xe := out X.prog X.w (A.deeper (lamEnv X scope s.heap.objs.size f c')) (lamEnv X scope s.heap.objs.size f c') outer H s E }
theorem takes0 {X : Cx} : L2N.Takes X (fun _ _ _ _ => False) := fun _ _ ⟨_, _, _, _, _, _, _, _, _, _, _, _, _, _, _, _, z⟩ => z.elim
abbrev giver (X : Cx) (Ng : List Str) (x : Str) (sg : Scope) (g : Addr) (cdg : Value) (s : Shared) (H : Hp) : Cx := cxOf C8.CX0 X.prog X.w X.K X.mg X.base Ng x sg g cdg X.A X.stack s H C8.E0
/-- the def that calls what it got -/
def GivesTo (X : Cx) (Ng : List Str) (x : Str) (sg : Scope) (g : Addr) (cdg : Value) (bg : List Stmt) (a : Str) (q : Str) (TT : (XK → Hp → VK → Prop) → Hp → VK → Prop) : Prop :=
  ∀ (f c' : Addr) (s : Shared) (H : Hp) (Q : VK) (tl : XK → Hp → VK → Prop),
    (∀ (W : WX) (pn : List (Addr × Obj)) (xe : Value → Shared → Prop) (E : XK) (p1 p2 : Pos), L2N.Takes ((giver X Ng x sg g cdg s H).tr pn xe) W → (∀ cls d σ' H', E cls d H' → W cls d σ' H') →
      PE ((giver X Ng x sg g cdg s H).tr pn xe) (.Call (.Name a p1) [] [] p2) (fun σZ HZ Q => σZ[0]? = some (some (.ref f)) ∧ HZ c' = some (CodeO c' q) ∧ tl E HZ Q)) →
    H c' = some (CodeO c' q) → TT tl H Q → ∃ t, PSs (giver X Ng x sg g cdg s H).nox bg t ∧ t { nx := fun _ H' => Q .non H', rt := Q } (L2.start Ng [.ref f]) H
section
variable {X : Cx} {params : Arguments} {body : Expr} {scope : Scope}
/-- what got the lambda calls it -/
theorem act {pins : List (Addr × Obj)} {σ : L2.St} {H : Hp} {s : Shared} {Ng : List Str} {qg : Str} {sg : Scope} {g f c' : Addr} {cdg pm ctv : Value} {k : Nat} {a : Str} {pn : List (Addr × Obj)} {xe : Value → Shared → Prop} {W : WX} {E : XK} {tb : TE} {p1 p2 : Pos}
    (I : L2.Inv X pins σ H s) (L : LamS X.env.scope scope) (hf : s.heap.get? f = some (PySem.W.kla_obj "<lambda>" (X.env.qual ++ "<lambda>") params body scope (cloFrom X.env.cells scope.names []) pm c' ctv)) (hfn : H f = none) (hfr : f ∉ frs X.stack)
    (hbind : bindArgs (PySem.W.kla_fn "<lambda>" (X.env.qual ++ "<lambda>") params body scope (cloFrom X.env.cells scope.names []) pm (.ref c') ctv) ⟨[], []⟩ = pure [])
    (tk : L2N.Takes ((giver X Ng qg sg g cdg s H).tr pn xe) W) (hW : ∀ cls d σ' H', E cls d H' → W cls d σ' H') (hr : Room (k + 1) (X.A.deeper (envOfC qg sg s.heap.objs.size g cdg)))
    (hbody : ∀ (A : Around) (outer : List Env) (s : Shared) (H : Hp), Room k (A.deeper (lamEnv X scope s.heap.objs.size f c')) → PE (lamCx X A outer s H E scope f c') body tb) (hN : Ng[0]? = some a) (hv : Vis sg a) (hd : (a == ("__debug__" : Str)) = false) (hcd : (a == ("__classdict__" : Str)) = false) :
    PE ((giver X Ng qg sg g cdg s H).tr pn xe) (.Call (.Name a p1) [] [] p2) (fun σZ HZ Q => σZ[0]? = some (some (.ref f)) ∧ HZ c' = some (CodeO c' (X.env.qual ++ "<lambda>")) ∧ tb σ HZ Q) := by
  refine ⟨fun pinsZ sZ σZ HZ Q IZ ⟨hs, hc, ht⟩ => ?_⟩
  have nm := pe_var (X := (giver X Ng qg sg g cdg s H).tr pn xe) (pos := p1) (i := 0) hN hv hd hcd
  refine wpAny_Call_Name_kw (thn (nm.run pinsZ sZ σZ HZ (fun v H1 => v = .ref f ∧ H1 = HZ) IZ ⟨_, hs, rfl, rfl⟩) fun u s1 hu => ?_)
  obtain ⟨v, H1, I1, r1, ev, eH⟩ := hu
  subst ev
  rw [eH] at I1
  cases r1
  have fs := I1.base.keep f _ hf hfn hfr fun z => nomatch (show f ∈ ([] : List Addr) from z)
  obtain ⟨⟨oc, vs, t, hoc, hdc, hvc⟩, _, _⟩ := I1.hok c' _ hc
  refine PySem.W.callWith_F0 ⟨_, _, _, _, fs⟩ (wpAny_call (codeAny_mono (R := CR (L2N.CX X.prog X.w) (envOfC qg sg s.heap.objs.size g cdg :: X.stack) X.prog X.w HZ s1 Q E) ?_ fun r s' hq => ?_))
  · show codeAny (model X.prog X.w) (X.A.deeper (envOfC qg sg s.heap.objs.size g cdg)) (.call (.ref f) ⟨[], []⟩) (CR (L2N.CX X.prog X.w) (envOfC qg sg s.heap.objs.size g cdg :: X.stack) X.prog X.w HZ s1 Q E) s1
    refine PySem.W.kla_callFunE hr.depth fs rfl L.co L.gen rfl ⟨c', oc, vs, t, rfl, hoc, hdc, hvc⟩ ?_
    rw [hbind]
    refine wpAny_pure (wpAny_newFunctionEnv (fun y hy => (L.own y hy).2) (fun y hy => absurd hy (by simp)) (fun h1 hns hsb => ⟨I1.nolimit.fresh _ hsb, ?_⟩) L.kind)
    have e0 : Env0 X.prog X.w X.K X.mg X.base (X.A.deeper (envOfC qg sg s.heap.objs.size g cdg)) (envOfC qg sg s.heap.objs.size g cdg :: X.stack) s1 HZ := I1.env0
    have J := inv_xe (xe' := out X.prog X.w ((X.A.deeper (envOfC qg sg s.heap.objs.size g cdg)).deeper (lamEnv X scope s1.heap.objs.size f c')) (lamEnv X scope s1.heap.objs.size f c') (envOfC qg sg s.heap.objs.size g cdg :: X.stack) HZ s1 E)
      (LamX.lam_start2 (E := E) (f := f) (c' := c') (tk := s1.toks + ([] : List (Str × Value)).length) I L e0 hr.hd I1.base hns fun b o e => hsb.extBut b o (Nat.ne_of_lt (Heap.lt_size e)) (Heap.get?_push_of_some _ e))
    refine PySem.W.kla_codeExpr (wpAny_mono ((hbody _ _ s1 HZ (hr.deeper _)).run [] _ _ HZ Q J ht) (fun v s' hq => ?_) fun e s' hq => hq)
    obtain ⟨w', H', J', rv, q⟩ := hq
    exact ⟨w', H', J'.os, J'.bare, J'.base, J'.hok, rv, q⟩
  · cases r with
    | error e => exact L2N.passes_call tk hW pinsZ σZ HZ s1 e s' I1 hq
    | ok fl =>
      cases fl with
      | ret u => exact I1.after hq
      | _ => exact False.elim hq
/-- x(lambda: body) -/
theorem lamcall {T : List (Addr × Str)} {TT : (XK → Hp → VK → Prop) → Hp → VK → Prop} {x a : Str} {g c P : Addr} {k : Nat} {pg : Arguments} {bg : List Stmt} {sg : Scope} {dV kV doc pm cdv ct oc : Value} {an od : Option Addr} {osl : Array (Option Value)} {Ng : List Str} {t : XK → TE} {p lpos pos : Pos}
    (hg : Gl X x) (hm : X.mg x = some (.ref g)) (hk : PySem.W.keepIn X.K (.ref g) = true) (lk : X.K.lookup g = some ⟨oc, od, .func (PySem.W.fnOf x x pg bg sg dV kV doc pm an cdv ct), osl⟩) (hcg : PySem.W.codeIn X.K cdv x = true)
    (hb : L2.Binds X.K (PySem.W.fnOf x x pg bg sg dV kV doc pm an cdv ct) [a] []) (Sg : FnScope Ng [a] sg) (hNg : Ng[0]? = some a) (hva : Vis sg a) (hG : GivesTo X Ng x sg g cdv bg a (X.env.qual ++ "<lambda>") TT)
    (TB : TabB X.base X.mg c P) (hcode : X.env.code = .ref c) (hmT : (P, X.env.qual ++ "<lambda>") ∈ T) (hu : ∀ p ∈ T, p.1 = P → p.2 = X.env.qual ++ "<lambda>") (hr : Room (k + 2) X.A) (L : LamS X.env.scope scope) (hdef : defaultsOf params X.env = ([], []))
    (hbind : ∀ (q : Str) (cl : List (Str × Addr)) (pm cv ctv : Value), bindArgs (PySem.W.kla_fn "<lambda>" q params body scope cl pm cv ctv) ⟨[], []⟩ = pure [])
    (hbody : ∀ (A : Around) (outer : List Env) (s : Shared) (H : Hp) (E : XK) (f c' : Addr), Room k (A.deeper (lamEnv X scope s.heap.objs.size f c')) → PE (lamCx X A outer s H E scope f c') body (t E))
    (hdb : (x == ("__debug__" : Str)) = false) (hd : (a == ("__debug__" : Str)) = false) (hcd : (a == ("__classdict__" : Str)) = false) : PE X (.Call (.Name x p) [.Lambda params body scope lpos] [] pos) (tLam T TT t) := by
  refine ⟨fun pins s σ H Q I ⟨hT, h⟩ => wpAny_Call_Name_kw (ld_glob I hg hm ?_ hdb)⟩
  refine PySem.W.callWith_K (h₀ := X.base) I.ok.mod.kin hk ?_ (by rfl) (by rfl)
  show wpAny _ _ (spliced ((false, eval (.Lambda params body scope lpos) X.env) :: backTo pos (starEach [] X.env))) _ _ s
  refine Calls.spliced_cons (LamX.lam_make2 I TB hcode hmT hu hT hdef (L.has I.ok) fun f c' pm' ctv H1 s' I1 eN T1 hf hfn hfr hco => Calls.spliced_nil ⟨I1.kIn, wpAny_call (codeAny_mono (LamX.run_ofS (CX := C8.CX0) (E := C8.E0) (Q := Q) (N := Ng) (ps := [a]) (us := [.ref f]) (vs := [.ref f]) lk hcg Sg hr I1.env0 (hb s' [.ref f] I1.kIn rfl) (.cons rfl .nil) rfl fun hr' => ?_) fun r s2 hq => ?_)⟩)
  · obtain ⟨t', ht', hq'⟩ := hG f c' s' H1 Q (fun E H' Q' => t E σ H' Q') (fun W pn xe E p1 p2 tk hW => act I1 L hf hfn hfr (hbind _ _ _ _ _) tk hW hr' (fun A outer s H hr2 => hbody A outer s H E f c' hr2) hNg hva hd hcd) hco (h H1 eN T1)
    exact ⟨t', ht'.nox, hq'⟩
  · cases r with
    | error e => exact (show False from hq).elim
    | ok fl =>
      cases fl with
      | ret u => exact I1.after hq
      | _ => exact False.elim hq
end
end LRN

set_option Elab.async false
set_option linter.all false
set_option maxRecDepth 100000
set_option maxHeartbeats 4000000
/-! own exceptions with __init__, made where nothing is handled: their context is None -/
namespace LRN
open PySem PySem.Spec PyProof.Rows L2 LR
/-- what is told of a made one, and that its context is None -/
theorem mk_ctx {X : Cx} {pins : List (Addr × Obj)} {σ : L2.St} {Q : XK} {a : Addr} {s : Shared} {oe : Obj} (h : L2.MkP X pins σ Q (.ref a) s) (he : s.heap.get? a = some oe) (hc : PySem.PXN.CtxN oe) : L2N.MkP X pins σ Q (.ref a) s := by
  obtain ⟨b, o, vs, sI, H', cls, d, e, J, k, hne, ho, hz, hd, h1, na, os, ag, r, q⟩ := h
  cases e
  rw [he] at ho
  cases ho
  exact ⟨a, oe, vs, sI, H', cls, d, rfl, J, k, hne, he, ⟨hz.1, hz.2, hc⟩, hd, h1, na, os, ag, r, q⟩
theorem pmk_supN {X : Cx} {C : Addr} {fld x : Str} {D : SupD} {e : Expr} {te : TE} {p pos : Pos} (F : SupF X.prog X.K X.mg C fld D) (hr : Room 1 X.A) (hb : Binds X.K D.fd [D.n0, D.n1] []) (hg : Gl X x) (hm : X.mg x = some (.ref C)) (he : PE X e te)
    (himp : ∀ σ H (Q Q' : VK), (∀ v H, Q v H → Q' v H) → te σ H Q → te σ H Q') (hdb : (x == ("__debug__" : Str)) = false) (hst : starEach [e] X.env = (false, eval e X.env) :: starEach [] X.env) : L2N.PMk X (.Call (.Name x p) [e] [] pos) (tMkS C fld te) := by
  intro pins s σ H Q I h
  obtain ⟨nm, q, N, bs, bm, sn, sub, ab, col, dd, k0, k1, k2, k3, k5, hC, hbm⟩ := F.T.cls
  have F1 := sup_fn F (w := X.w) (base := X.base)
  refine wpAny_Call_Name_kw (ld_glob I hg hm (PySem.W.callWith_K (h₀ := X.base) I.ok.mod.kin F.T.kC (thn ((pa_cons he pa_nil hst).run pos pins s σ H (fun vs H1 => ∃ v, vs = [v] ∧ kSup C fld Q v H1) I (himp σ H _ _ (fun v H1 k => ⟨v, rfl, k⟩) h)) fun us s1 ⟨vs, H1, I1, r1, v, ev, q1⟩ => ⟨I1.kIn, ?_⟩) hst rfl) hdb)
  subst ev
  obtain ⟨u, rfl, ru⟩ := vals1 r1
  obtain ⟨hp, g, dr, tk, os⟩ := s1
  generalize hh : (hp.push (PySem.W.kdv_tup [u])).push (PySem.HandSPX.excO C hp.objs.size) = h1
  have up : ∀ b o, hp.get? b = some o → h1.get? b = some o := fun b o k => hh ▸ Heap.get?_push_of_some _ (Heap.get?_push_of_some _ k)
  have at1 : h1.get? (hp.objs.size + 1) = some (PySem.HandSPX.excO C hp.objs.size) := by
    rw [← hh]
    heap_get
  have le : hp.objs.size ≤ hp.objs.size + 1 := Nat.le_succ _
  have I2 := I1.laid (t' := tk) (a := hp.objs.size + 1) (o := exo (hp.objs.size + 1) C none) up le (exo_ok at1)
  have hq := q1 _ (I1.hok.fresh le)
  have bind := hb ⟨h1, g, dr, tk, os⟩ [.ref (hp.objs.size + 1), u] I2.kIn rfl
  have run := F1.run (X.A.under (.builtin "type.__call__" ⟨.ref C :: [u], []⟩)) X.stack ⟨h1, g, dr, tk, os⟩ _ ⟨[.ref (hp.objs.size + 1), u], []⟩ [.ref (hp.objs.size + 1), u] _ _ (fun _ _ _ => False) (hr.make C [u] []) (I2.env0.make C [u] []) bind (.cons (show RelV (.ref (hp.objs.size + 1)) (.ref (hp.objs.size + 1)) from rfl) (.cons ru .nil)) hq
  rw [← hh] at run
  refine wpAny_call (PySem.HandSPX.call_own PySem.F.excBase_ValueError (fun Y => PySem.HandSPX.refsVE_contains Y bm hbm) (I1.kIn _ _ hC) (PySem.W.looks_findIn I1.kIn F.iC) (fun self => PySem.W.bind_fn I1.kIn self F.tI) (by show 1 ≤ sizeLine; decide) (codeAny_mono run fun r s' out => ?_))
  cases r with
  | error er =>
    obtain ⟨_, _, _, _, _, _, _, _, _, _, _, _, z⟩ := out
    exact z.elim
  | ok fl =>
    cases fl with
    | ret w =>
      obtain ⟨v', H2, os2, bare2, un2, hok2, rv, ev, d, fs, ea, ed, hd1, q2⟩ := out
      subst ev
      obtain ⟨h2, g2, d2, t2, os'⟩ := s'
      obtain ⟨t0, ho⟩ := exo_at hok2 ea
      refine ⟨rv, mk_ctx (mk_end (raises_own F.T.exC F.T.tyC) I1 le (fun b o k => by rw [hh]; exact up b o k) un2 hok2 os2 bare2 ea ed hd1 q2) ho fun vs e => ?_⟩
      cases e
      rfl
    | _ => exact False.elim out
end LRN

set_option Elab.async false
set_option linter.all false
set_option maxRecDepth 100000
set_option maxHeartbeats 4000000
namespace LR
open PySem PySem.Spec PyProof.Rows L2

/-! ### the evaluator -/
structure Xc where
  cls : Str
  fs : List (Str × D)
inductive R (α : Type) where
  | ok (a : α) (m : Mem) | exc (x : Xc) (m : Mem) | err
def R.bind {α β : Type} (r : R α) (f : α → Mem → R β) : R β := match r with
  | .ok a m => f a m
  | .exc x m => .exc x m
  | .err => .err
abbrev Sl := List (Option D)
def lim : Nat := 1000000
def opt {α : Type} (m : Mem) : Option α → R α
  | some d => .ok d m
  | none => .err
def tst (r : R D) : R Bool := r.bind fun d m => match d with
  | .bl b => .ok b m
  | _ => .err
/-- what may be read as a row of items -/
def D.seq (m : Mem) : D → Option (List D)
  | .tup l => some l
  | .lst l => some l
  | .scr l => some l
  | .ref n => match m[n]? with
    | some (.lst l) => some l
    | _ => none
  | _ => none
/-- what stands still -/
def D.frz : D → Option (List D)
  | .tup l => some l
  | .lst l => some l
  | _ => none
inductive O1 where
  | neg | rev
inductive O2 where
  | add | sub | mul | fdiv | mod | pow | eq | ne | lt | le | gt | ge | inn | nin | is | isn | dinn | dnin | sinn | snin
inductive Bi where
  | len | abs | int | bool | min | max | sum | all | any | tuple
/-- texts: one thing; two things -/
inductive SU where
  | len | str
inductive SO where
  | ix | join | split | sw | tidx | lidx | sidx
/-- operators of own classes: one place, two places -/
inductive K1 where
  | len | neg | tru
inductive K2 where
  | inn | nin | eq | ne | get
mutual
inductive E where
  | nop
  | c (d : D) | v (i : Nat) | g (x : Str)
  | o1 (k : O1) (a : E)
  | o2 (k : O2) (a b : E)
  | ch (k k' : O2) (a b c : E)
  | idx (a b : E)
  | no (a : E) | and (a b : E) | or (a b : E)
  | ite (t a b : E)
  | tup (es : Es)
  | nl (mt : Bool) (n : N)
  | sl (a lo hi : E)
  | call (f : Str) (es : Es)
  | bi (b : Bi) (es : Es)
  | isi (ty : String) (e : E)
  | lset (e : E)
  | app (o e : E)
  | dnw
  | dget (o k : E)
  | cnt (o e : E)
  | tr1 (a : E)
  | tr2 (a b : E)
  | fld (o : E) (C x : Str)
  | mk (C k : Str) (es : Es)
  | mc (o : E) (C x k : Str) (es : Es)
  | lamc (g : Str) (b : E) (okv : D) (tb : List (Str × D))
  | dn1 (k v : E)
  | su (k : SU) (a : E)
  | so (k : SO) (a b : E)
  | oo1 (k : K1) (C key : Str) (a : E)
  | oo2 (k : K2) (C key : Str) (a b : E)
  | iso (C : Str) (a : E)
  | prp (o : E) (C x key : Str)
inductive Es where
  | nil | cons (e : E) (es : Es)
inductive N where
  | disp (es : Es)
  | comp (elt : E) (tp : Bool) (vs : List Nat) (it : It) (c : E)
  | cp (e : E)
  | rng (es : Es)
  | zp (a b : E)
  | srt (e : E)
  | srp (e : E)
  | sl (a lo hi : E)
  | sl2 (a lo : E)
  | srd (e : E)
inductive It where
  | seq (e : E) | rng (es : Es) | zip (es : Es) | enum (e : E) | str (e : E)
end
inductive Tg where
  | nm (i : Nat) | ix (o i : E) | dk (o i : E)
inductive S where
  | nop
  | seq (a b : S)
  | asg (t : Tg) (e : E)
  | tpl (ts : List Tg) (e : E)
  | par (is : List Nat) (es : Es)
  | exp (e : E)
  | ret (e : E)
  | ite (c : E) (a b : S)
  | loop (tp : Bool) (vs : List Nat) (it : It) (b : S)
  | whl (c : E) (b : S)
  | brk
  | never
  | rse (cls : Str)
  | frz (i : Nat)
  | tri (b : S) (tab : List (Str × D))
  | lop (tp : Bool) (vs : List Nat) (e : E) (b : S)
  | fas (o : E) (C x : Str) (e : E)
  | rsx (cls fld : Str) (e : E)
  | trf (b : S) (cls fld : Str)

def D.isNon : D → Bool
  | .non => true
  | _ => false
def sem1 : O1 → D → Option D
  | .neg, .int i => some (.int (-i))
  | .rev, .tup l => some (.tup l.reverse)
  | _, _ => none
def eqD (a b : D) : Option Bool := if SeqAt.shaped a.py && SeqAt.shaped b.py then some (PyData.eqv a.py b.py) else none
def inD (x : D) (l : List D) : Option Bool := if x.flat && l.all D.flat then some (l.any fun y => eqF y x) else
  if SeqAt.shaped x.py && SeqAt.shaped (.list (pys l)) && decide (x.py.depth ≤ 30) then some ((pys l).any fun z => PyData.eqv z x.py) else none
/-- the order of data -/
def ltD (a b : D) : Option Bool := if SeqAt.shaped a.py && SeqAt.shaped b.py && PySem.W.alike a.py b.py && !a.isNon then some (PySem.W.dataLt a.py b.py) else none
def D.tupN : D → Bool
  | .tup (_ :: _) => true
  | _ => false
def D.oth : D → Bool
  | .non => false
  | .tup _ => false
  | .scr _ => false
  | .ref _ => false
  | _ => true
def sortOk (l : List D) : Bool := (l.all D.tupN || l.all D.oth) && (l.all fun a => SeqAt.shaped a.py && decide (a.py.depth ≤ 30) && l.all fun b => PySem.W.alike a.py b.py) && decide (l.length ≤ lim)
def sortD (l : List D) : List D := l.mergeSort (PySem.W.dataLe false D.py)
def addD : D → D → Option D
  | .int i, .int j => some (.int (i + j))
  | .str s, .str t => if s.length + t.length ≤ lim then some (.str (s ++ t)) else none
  | .tup l, .tup r => if l.length + r.length ≤ lim then some (.tup (l ++ r)) else none
  | .lst l, .lst r => if l.length + r.length ≤ lim then some (.lst (l ++ r)) else none
  | _, _ => none
def mulOk (i j : Int) : Bool := decide (-(2 ^ 64) < i) && decide (i < 2 ^ 64) || decide (-(2 ^ 64) < j) && decide (j < 2 ^ 64) || decide (i.natAbs.log2 + j.natAbs.log2 < 1000000)
/-! ### dicts, instances -/
def dicOf (m : Mem) : D → Option (List (NK × D))
  | .ref n => (match m[n]? with
    | some (.dic kvs) => some kvs
    | _ => none)
  | _ => none
def nkKey : D → Option NK
  | .tup l => (nkD (.tup l)).bind fun k => if k.depth ≤ 8 then some k else none
  | _ => none
def valD (kvs : List (NK × D)) (k : NK) : Option D := (kvs.find? fun e => decide (e.1 = k)).map (·.2)
def insOf (m : Mem) : D → Option (Str × List (Str × D))
  | .ref n => (match m[n]? with
    | some (.ins C fs) => some (C, fs)
    | _ => none)
  | _ => none
def putFD (f : Str) (y : D) : List (Str × D) → List (Str × D)
  | [] => [(f, y)]
  | (g, x) :: r => if g = f then (g, y) :: r else (g, x) :: putFD f y r
def signS (c z : Str) : Option Bool := match c.cps.toList with
  | [n] => some (decide (n ∈ z.cps.toList))
  | _ => none
def sem2 (k : O2) (a b : D) (m : Mem) : Option D := match k with
  | .add => addD (a.deref m) (b.deref m)
  | .sub => match a, b with
    | .int i, .int j => some (.int (i - j))
    | _, _ => none
  | .mul => match a, b with
    | .int i, .int j => if mulOk i j then some (.int (i * j)) else none
    | _, _ => none
  | .fdiv => match a, b with
    | .int i, .int j => if 0 < j ∧ j.natAbs.log2 < 9000 then some (.int (i / j)) else none
    | _, _ => none
  | .mod => match a, b with
    | .int i, .int j => if 0 < j then some (.int (i % j)) else none
    | _, _ => none
  | .pow => match a, b with
    | .int i, .int j => if 0 ≤ j ∧ j ≤ 1000000 ∧ i.natAbs < 2 ^ 64 then some (.int (i ^ j.toNat)) else none
    | _, _ => none
  | .eq => (eqD (a.deref m) (b.deref m)).map .bl
  | .ne => (eqD (a.deref m) (b.deref m)).map fun x => .bl (!x)
  | .lt => match a, b with
    | .int i, .int j => some (.bl (decide (i < j)))
    | .tup l, .tup r => (ltD (.tup l) (.tup r)).map .bl
    | _, _ => none
  | .le => match a, b with
    | .int i, .int j => some (.bl (decide (i ≤ j)))
    | _, _ => none
  | .gt => match a, b with
    | .int i, .int j => some (.bl (decide (j < i)))
    | _, _ => none
  | .ge => match a, b with
    | .int i, .int j => some (.bl (decide (j ≤ i)))
    | _, _ => none
  | .inn => (b.seq m).bind fun l => (inD a l).map .bl
  | .nin => (b.seq m).bind fun l => (inD a l).map fun x => .bl (!x)
  | .dinn => (dicOf m b).bind fun kvs => (nkKey a).map fun k => .bl (valD kvs k).isSome
  | .dnin => (dicOf m b).bind fun kvs => (nkKey a).map fun k => .bl (!(valD kvs k).isSome)
  | .sinn => match a, b with
    | .str c, .str z => (signS c z).map .bl
    | _, _ => none
  | .snin => match a, b with
    | .str c, .str z => (signS c z).map fun x => .bl (!x)
    | _, _ => none
  | .is => match a, b with
    | a, .non => some (.bl a.isNon)
    | .bl x, .bl y => some (.bl (decide (x = y)))
    | _, _ => none
  | .isn => match a, b with
    | a, .non => some (.bl (!a.isNon))
    | .bl x, .bl y => some (.bl (!decide (x = y)))
    | _, _ => none
def semIx (a b : D) (m : Mem) : Option D := match b with
  | .int i => (a.seq m).bind fun l => atI l i
  | _ => none
def cutD (l : List D) (lo hi : Option Int) : List D := (l.drop (HT.sIx l.length 0 lo)).take (HT.sIx l.length l.length hi - HT.sIx l.length 0 lo)
/-- an optional bound -/
def semPart : D → Option (Option Int)
  | .int i => some (some i)
  | _ => none
def semSl (a : D) (lo hi : Option Int) : Option D := match a with
  | .tup l => some (.tup (cutD l lo hi))
  | .str z => if z.length ≤ lim then some (.str (cutS z lo hi)) else none
  | _ => none
def toBls : List D → Option (List Bool)
  | [] => some []
  | .bl b :: l => (toBls l).map (b :: ·)
  | _ :: _ => none
def toInts : List D → Option (List Int)
  | [] => some []
  | .int b :: l => (toInts l).map (b :: ·)
  | _ :: _ => none
def minL : List Int → Option Int
  | [] => none
  | i :: l => some (l.foldl (fun a b => if b < a then b else a) i)
def maxL : List Int → Option Int
  | [] => none
  | i :: l => some (l.foldl (fun a b => if a < b then b else a) i)
def bLen (ds : List D) (m : Mem) : Option D := match ds with
  | [d] => (d.seq m).map fun l => .int l.length
  | _ => none
def bAbs (ds : List D) : Option D := match ds with
  | [.int i] => some (.int (if i < 0 then -i else i))
  | _ => none
def bInt (ds : List D) : Option D := match ds with
  | [.int i] => some (.int i)
  | _ => none
def bBool (ds : List D) : Option D := match ds with
  | [.bl b] => some (.bl b)
  | _ => none
def rowOf : D → Option (List D)
  | .tup l => some l
  | .lst l => some l
  | _ => none
def bMin (ds : List D) : Option D := match ds with
  | [.int i, .int j] => some (.int (if j < i then j else i))
  | [d] => (rowOf d).bind fun l => (toInts l).bind fun ns => (minL ns).map .int
  | _ => none
def bMax (ds : List D) : Option D := match ds with
  | [.int i, .int j] => some (.int (if j > i then j else i))
  | [d] => (rowOf d).bind fun l => (toInts l).bind fun ns => (maxL ns).map .int
  | _ => none
def rowS : D → Option (List D)
  | .tup l => some l
  | .lst l => some l
  | .scr l => some l
  | _ => none
def bSum (ds : List D) : Option D := match ds with
  | [d] => (rowS d).bind fun l => (toInts l).map fun ns => .int ns.sum
  | _ => none
def bAll (ds : List D) : Option D := match ds with
  | [.lst l] => (toBls l).map fun bs => .bl (bs.all id)
  | _ => none
def bAny (ds : List D) : Option D := match ds with
  | [.lst l] => (toBls l).map fun bs => .bl (bs.any id)
  | _ => none
def bTuple (ds : List D) (m : Mem) : Option D := match ds with
  | [d] => (d.seq m).map .tup
  | _ => none
def semBi (k : Bi) (ds : List D) (m : Mem) : Option D := match k with
  | .len => bLen ds m
  | .abs => bAbs ds
  | .int => bInt ds
  | .bool => bBool ds
  | .min => bMin ds
  | .max => bMax ds
  | .sum => bSum ds
  | .all => bAll ds
  | .any => bAny ds
  | .tuple => bTuple ds m
/-- the built-in type's name of a value -/
def tyD (m : Mem) : D → Option String
  | .non => some "NoneType"
  | .bl _ => some "bool"
  | .int _ => some "int"
  | .str _ => some "str"
  | .tup _ => some "tuple"
  | .lst _ => some "list"
  | .scr _ => none
  | .ref n => match m[n]? with
    | some (.lst _) => some "list"
    | _ => none
def semIsi (ty : String) (d : D) (m : Mem) : Option D := (tyD m d).bind fun a => (kitB a ty).map .bl
/-- how many unlike ones -/
def uniq : List Int → List Int
  | [] => []
  | i :: l => if i ∈ l then uniq l else i :: uniq l
def semLset (d : D) (m : Mem) : Option D := (d.seq m).bind fun l => (toInts l).bind fun ns => if ns.length ≤ 1000 then some (.int (uniq ns).length) else none
def rngs (i : Int) (n : Nat) (c : Int) : List D := (List.range n).map fun (k : Nat) => .int (i + k * c)
def bnd (i : Int) : Bool := decide (-(2 ^ 62) ≤ i) && decide (i ≤ 1000000)
def semR : List D → Option (List D)
  | [.int j] => if bnd j then some (rngs 0 j.toNat 1) else none
  | [.int i, .int j] => if bnd i && bnd j && decide ((j - i).toNat ≤ lim) then some (rngs i (j - i).toNat 1) else none
  | [.int i, .int j, .int c] => if bnd i && bnd j && decide (c = -1) && decide ((i - j).toNat ≤ lim) then some (rngs i (i - j).toNat (-1)) else
      if bnd i && bnd j && decide (c = 2) && decide ((j - i).toNat ≤ lim) then some (rngs i ((j - i + 1) / 2).toNat 2) else none
  | _ => none
def zipD : List D → List D → List D
  | a :: l, b :: r => .tup [a, b] :: zipD l r
  | _, _ => []
def zipD3 : List D → List D → List D → List D
  | a :: l, b :: r, c :: q => .tup [a, b, c] :: zipD3 l r q
  | _, _, _ => []
def semZ : List D → Option (List D)
  | [.lst l, .lst r, .lst q] => if l.length ≤ lim then some (zipD3 l r q) else none
  | [.tup l, .tup r] => if l.length ≤ lim then some (zipD l r) else none
  | [.lst l, .lst r] => if l.length ≤ lim then some (zipD l r) else none
  | _ => none
def semZT : List D → Option (List D)
  | [.tup l, .tup r] => if l.length ≤ lim then some (zipD l r) else none
  | _ => none
def enumD : Nat → List D → List D
  | _, [] => []
  | n, a :: l => .tup [.int n, a] :: enumD (n + 1) l
def semE (d : D) : Option (List D) := match d with
  | .lst l => if l.length ≤ lim then some (enumD 0 l) else none
  | .tup l => if l.length ≤ lim then some (enumD 0 l) else none
  | _ => none
/-- every second one -/
def evry {α : Type} : List α → List α
  | [] => []
  | [a] => [a]
  | a :: _ :: l => a :: evry l
def semSeq (d : D) : Option (List D) := (d.frz).bind fun l => if l.length ≤ lim then some l else none
/-- sorting -/
def insI (i : Int) : List Int → List Int
  | [] => [i]
  | j :: l => if i ≤ j then i :: j :: l else j :: insI i l
def srtI : List Int → List Int
  | [] => []
  | i :: l => insI i (srtI l)
def toPairs : List D → Option (List (Int × Int))
  | [] => some []
  | .tup [.int i, .int j] :: l => (toPairs l).map ((i, j) :: ·)
  | _ :: _ => none
def leP (a b : Int × Int) : Bool := decide (a.1 < b.1) || (decide (a.1 = b.1) && decide (a.2 ≤ b.2))
def insP (i : Int × Int) : List (Int × Int) → List (Int × Int)
  | [] => [i]
  | j :: l => if leP i j then i :: j :: l else j :: insP i l
def srtP : List (Int × Int) → List (Int × Int)
  | [] => []
  | i :: l => insP i (srtP l)
/-- a list's items -/
def D.lseq (m : Mem) : D → Option (List D)
  | .lst l => some l
  | .scr l => some l
  | .ref n => match m[n]? with
    | some (.lst l) => some l
    | _ => none
  | _ => none
def semN1 (k : Nat) (d : D) (m : Mem) : Option (List D) := match k with
  | 0 => d.seq m
  | 1 => (d.lseq m).bind fun l => (toInts l).map fun ns => (srtI ns).map .int
  | 3 => (d.seq m).bind fun l => if sortOk l then some (sortD l) else none
  | _ => (d.lseq m).bind fun l => (toPairs l).map fun ns => (srtP ns).map fun p => .tup [.int p.1, .int p.2]
/-! ### texts -/
def toStrs : List D → Option (List Str)
  | [] => some []
  | .str b :: l => (toStrs l).map (b :: ·)
  | _ :: _ => none
def semSU : SU → D → Option D
  | .len, .str z => if z.length ≤ lim then some (.int z.length) else none
  | .str, .int i => if i.natAbs.log2 < 1900 then some (.str (toString i)) else none
  | _, _ => none
def idxF (y : D) : List D → Nat → Option Nat
  | [], _ => none
  | z :: l, j => if eqF z y then some j else idxF y l (j + 1)
def idxS (y : Str) : List Str → Nat → Option Nat
  | [], _ => none
  | z :: l, j => if z = y then some j else idxS y l (j + 1)
def joinS (a : Str) (ys : List Str) : Option D := if (ys.map (·.length)).sum + ys.length * a.length ≤ lim then some (.str (Txt.join a ys)) else none
/-- isinstance of an own class -/
def semIso (C : Str) (d : D) (m : Mem) : Option D := match d with
  | .tup _ => some (.bl false)
  | .int _ => some (.bl false)
  | .ref n => (match m[n]? with
    | some (.ins C' _) => if C' = C then some (.bl true) else none
    | _ => none)
  | _ => none
/-- the good end of a def that calls what it gets; `.ref`: there is none -/
def okOf : D → Option D
  | .ref _ => none
  | d => some d
def kindD (C : Str) (m : Mem) : D → Bool
  | .tup _ => true
  | .int _ => true
  | .ref n => match m[n]? with
    | some (.ins C' _) => decide (C' = C)
    | _ => false
  | _ => false
def backK1 : K1 → D → Option D
  | .len, .int i => if 0 ≤ i ∧ i < 2 ^ 63 then some (.int i) else none
  | .neg, r => some r
  | .tru, .bl b => some (.bl b)
  | _, _ => none
def backK2 : K2 → D → Option D
  | .inn, .bl b => some (.bl b)
  | .eq, .bl b => some (.bl b)
  | .nin, .bl b => some (.bl !b)
  | .ne, .bl b => some (.bl !b)
  | .get, r => some r
  | _, _ => none
/-- the instance and the other one: in `x in y` the instance is the second place -/
def instK2 : K2 → D → D → D
  | .inn, _, y => y
  | .nin, _, y => y
  | _, x, _ => x
def otherK2 : K2 → D → D → D
  | .inn, x, _ => x
  | .nin, x, _ => x
  | _, _, y => y
/-- == and != ask what the other one is -/
def kindK2 : K2 → Str → Mem → D → Bool
  | .eq, C, m, y => kindD C m y
  | .ne, C, m, y => kindD C m y
  | _, _, _, _ => true
def semSO : SO → D → D → Option D
  | .ix, .str z, .int i => if z.length ≤ lim then (atI z.cps.toList i).map fun c => .str ⟨#[c]⟩ else none
  | .join, .str a, .lst l => (toStrs l).bind (joinS a)
  | .join, .str a, .tup l => (toStrs l).bind (joinS a)
  | .split, .str a, .str b => if (b.length == 0) = false ∧ a.length + 2 ≤ lim then some (.lst ((Txt.split a b).map .str)) else none
  | .sw, .str a, .str b => some (.bl (Txt.startswith a b))
  | .tidx, .tup l, .str z => (toStrs l).bind fun ys => (idxS z ys 0).map fun j => .int (j : Nat)
  | .lidx, .lst l, y => if y.flat && l.all D.flat then (idxF y l 0).map fun j => .int (j : Nat) else none
  | .sidx, .str a, .str b => (match Builtin.Str.occurrences a b 0 a.length 1 with
    | i :: _ => some (.int (i : Nat))
    | [] => none)
  | _, _, _ => none
def recvOk : SO → D → Bool
  | .join, .str _ => true
  | .split, .str _ => true
  | .sw, .str _ => true
  | .sidx, .str _ => true
  | .tidx, .tup _ => true
  | .lidx, .lst _ => true
  | .ix, _ => true
  | _, _ => false
/-- a comprehension's walk -/
def compL (f : D → Mem → R (Option D)) : List D → List D → Mem → R (List D)
  | [], acc, m => .ok acc m
  | d :: ds, acc, m => match f d m with
    | .ok (some y) m => compL f ds (acc ++ [y]) m
    | .ok none m => compL f ds acc m
    | _ => .err
def wipeS (s : Sl) : List Nat → Sl
  | [] => s
  | v :: vs => (wipeS s vs).set v none
def setAll : List Nat → List D → Sl → Option Sl
  | [], [], s => some s
  | i :: is, d :: ds, s => setAll is ds (s.set i (some d))
  | _, _, _ => none
def asgN (tp : Bool) (vs : List Nat) (d : D) (s : Sl) : Option Sl :=
  if tp then (match d with
    | .tup ds => setAll vs ds s
    | _ => none)
  else setAll vs [d] s
/-- a slice's bound -/
def pO (b : Bool) (m : Mem) (r : R D) : R (Option Int) := if b then .ok none m else r.bind fun d m => opt m (semPart d)
def isFl : D → Bool
  | .lst _ => true
  | _ => false
def cntD (x y : D) : Option D := match x, y with
  | .lst l, .int k => (toInts l).map fun ns => .int ((ns.count k : Nat) : Int)
  | _, _ => none
def isL (m : Mem) : D → Bool
  | .ref n => match m[n]? with
    | some (.lst _) => true
    | _ => false
  | _ => false
def appD (x y : D) (m : Mem) : R D := match x with
  | .ref n => (match m[n]? with
    | some (.lst l) => if l.length < lim then .ok .non (m.set n (.lst (l ++ [y]))) else .err
    | _ => .err)
  | _ => .err
def setD (x i y : D) (m : Mem) : R Unit := match x, i with
  | .ref n, .int k => (match m[n]? with
    | some (.lst l) => (match ixN l.length k with
      | some j => .ok () (m.set n (.lst (l.set j y)))
      | none => .err)
    | _ => .err)
  | _, _ => .err
def setK (x i y : D) (m : Mem) : R Unit := match x with
  | .ref n => (match m[n]? with
    | some (.dic kvs) => (match nkKey i with
      | some k => if kvs.length < lim ∧ (valD kvs k).isNone then .ok () (m.set n (.dic (kvs ++ [(k, y)]))) else .err
      | none => .err)
    | _ => .err)
  | _ => .err
/-- the one entry of a new dict -/
def dset1 (n : Nat) (x y : D) (m : Mem) : R D := match m[n]?, nkKey x with
  | some (.dic []), some k => .ok (.ref n) (m.set n (.dic [(k, y)]))
  | _, _ => .err
def setF (x : D) (C0 f : Str) (y : D) (m : Mem) : R Unit := match x with
  | .ref n => (match m[n]? with
    | some (.ins C fs) => if C = C0 ∧ fs.length < 100 then .ok () (m.set n (.ins C (putFD f y fs))) else .err
    | _ => .err)
  | _ => .err
def E.isNop : E → Bool
  | .nop => true
  | _ => false

/-! ### tables by names -/
def tab {α : Type} (x : Str) : List (Str × α) → Option α
  | [] => none
  | (y, a) :: l => if x = y then some a else tab x l
theorem tab_mem {α : Type} {x : Str} {a : α} : ∀ {l : List (Str × α)}, tab x l = some a → (x, a) ∈ l
  | [], h => by simp [tab] at h
  | (y, b) :: l, h => by
    simp only [tab] at h
    split at h
    · rename_i e
      cases h
      rw [e]
      exact List.mem_cons_self
    · exact List.mem_cons_of_mem _ (tab_mem h)
/-- the calls of two levels down: by the name "↓" -/
def lower (cl : Str → List D → Mem → R D) : Str → List D → Mem → R D := fun f ds m => cl "↓" (.str "↓" :: .str f :: ds) m
mutual
def ev (G : Str → Option D) (cl : Str → List D → Mem → R D) : E → Sl → Mem → R D
  | .nop, _, _ => .err
  | .c d, _, m => .ok d m
  | .v i, s, m => match s[i]? with
    | some (some d) => .ok d m
    | _ => .err
  | .g x, _, m => opt m (G x)
  | .o1 k a, s, m => (ev G cl a s m).bind fun x m => opt m (sem1 k x)
  | .o2 k a b, s, m => (ev G cl a s m).bind fun x m => (ev G cl b s m).bind fun y m => opt m (sem2 k x y m)
  | .ch k k' a b c, s, m => (ev G cl a s m).bind fun x m => (ev G cl b s m).bind fun y m => match sem2 k x y m with
    | some (.bl true) => (ev G cl c s m).bind fun z m => opt m (sem2 k' y z m)
    | some (.bl false) => .ok (.bl false) m
    | _ => .err
  | .idx a b, s, m => (ev G cl a s m).bind fun x m => (ev G cl b s m).bind fun y m => opt m (semIx x y m)
  | .no a, s, m => (ev G cl a s m).bind fun x m => match x with
    | .bl b => .ok (.bl (!b)) m
    | _ => .err
  | .and a b, s, m => (ev G cl a s m).bind fun x m => match x with
    | .bl true => ev G cl b s m
    | .bl false => .ok (.bl false) m
    | _ => .err
  | .or a b, s, m => (ev G cl a s m).bind fun x m => match x with
    | .bl true => .ok (.bl true) m
    | .bl false => ev G cl b s m
    | _ => .err
  | .ite t a b, s, m => (ev G cl t s m).bind fun x m => match x with
    | .bl true => ev G cl a s m
    | .bl false => ev G cl b s m
    | _ => .err
  | .tup es, s, m => (evs G cl es s m).bind fun ds m => .ok (.tup ds) m
  | .nl mt n, s, m => (evN G cl n s m).bind fun ds m => if mt then .ok (.ref m.length) (m ++ [.lst ds]) else .ok (.lst ds) m
  | .sl a lo hi, s, m => (ev G cl a s m).bind fun x m => (pO lo.isNop m (ev G cl lo s m)).bind fun l m => (pO hi.isNop m (ev G cl hi s m)).bind fun h m => opt m (semSl x l h)
  | .call f es, s, m => (evs G cl es s m).bind fun ds m => cl f ds m
  | .bi b es, s, m => (evs G cl es s m).bind fun ds m => opt m (semBi b ds m)
  | .isi ty e, s, m => (ev G cl e s m).bind fun x m => opt m (semIsi ty x m)
  | .lset e, s, m => (ev G cl e s m).bind fun x m => opt m (semLset x m)
  | .app o e, s, m => (ev G cl o s m).bind fun x m => if isL m x then (ev G cl e s m).bind fun y m => appD x y m else .err
  | .dnw, _, m => .ok (.ref m.length) (m ++ [.dic []])
  | .tr1 a, s, m => (ev G cl a s m).bind fun x m => opt m ((semR [x]).map .tup)
  | .tr2 a b, s, m => (ev G cl a s m).bind fun x m => (ev G cl b s m).bind fun y m => opt m ((semR [x, y]).map .tup)
  | .cnt o e, s, m => (ev G cl o s m).bind fun x m => if isFl x then (ev G cl e s m).bind fun y m => opt m (cntD x y) else .err
  | .dget o k, s, m => (ev G cl o s m).bind fun x m => (ev G cl k s m).bind fun y m => opt m ((dicOf m x).bind fun kvs => (nkKey y).bind fun k => valD kvs k)
  | .fld o C x, s, m => (ev G cl o s m).bind fun d m => opt m ((insOf m d).bind fun q => if q.1 = C then q.2.lookup x else none)
  | .mk C k es, s, m => (evs G cl es s m).bind fun ds m => (cl k (.ref m.length :: ds) (m ++ [.ins C []])).bind fun r m' => match r with
    | .non => .ok (.ref m.length) m'
    | _ => .err
  | .mc o C x k es, s, m => (ev G cl o s m).bind fun d m => match insOf m d with
    | some q => if q.1 = C ∧ (q.2.lookup x).isNone then (evs G cl es s m).bind fun ds m => cl k (d :: ds) m else .err
    | none => .err
  | .lamc g b okv tb, s, m => match ev G (lower cl) b s m with
    | .ok _ m => opt m (okOf okv)
    | .exc x m => opt m (tab x.cls tb)
    | .err => .err
  | .su k a, s, m => (ev G cl a s m).bind fun x m => opt m (semSU k x)
  | .so k a b, s, m => (ev G cl a s m).bind fun x m => if recvOk k x then (ev G cl b s m).bind fun y m => opt m (semSO k x y) else .err
  | .oo1 k C key a, s, m => (ev G cl a s m).bind fun d m => match insOf m d with
    | some q => if q.1 = C then (cl key [d] m).bind fun r m => opt m (backK1 k r) else .err
    | none => .err
  | .oo2 k C key a b, s, m => (ev G cl a s m).bind fun d m => (ev G cl b s m).bind fun y m => match insOf m (instK2 k d y) with
    | some q => if q.1 = C ∧ kindK2 k C m y then (cl key [instK2 k d y, otherK2 k d y] m).bind fun r m => opt m (backK2 k r) else .err
    | none => .err
  | .prp o C _ key, s, m => (ev G cl o s m).bind fun d m => match insOf m d with
    | some q => if q.1 = C then (match cl key [d] m with
      | .ok r m => .ok r m
      | _ => .err) else .err
    | none => .err
  | .iso C a, s, m => (ev G cl a s m).bind fun x m => opt m (semIso C x m)
  | .dn1 k v, s, m => (ev G cl k s (m ++ [.dic []])).bind fun x m1 => (ev G cl v s m1).bind fun y m2 => dset1 m.length x y m2
def evs (G : Str → Option D) (cl : Str → List D → Mem → R D) : Es → Sl → Mem → R (List D)
  | .nil, _, m => .ok [] m
  | .cons e es, s, m => (ev G cl e s m).bind fun d m => (evs G cl es s m).bind fun ds m => .ok (d :: ds) m
def evN (G : Str → Option D) (cl : Str → List D → Mem → R D) : N → Sl → Mem → R (List D)
  | .disp es, s, m => evs G cl es s m
  | .comp elt tp vs it c, s, m => (evI G cl it s m).bind fun items m => compL (fun d m => match asgN tp vs d (wipeS s vs) with
      | none => .err
      | some s1 => (if c.isNop then .ok true m else tst (ev G cl c s1 m)).bind fun b m => if b then (ev G cl elt s1 m).bind fun y m => .ok (some y) m else .ok none m) items [] m
  | .cp e, s, m => (ev G cl e s m).bind fun x m => opt m (semN1 0 x m)
  | .rng es, s, m => (evs G cl es s m).bind fun ds m => opt m (semR ds)
  | .zp a b, s, m => (ev G cl a s m).bind fun x m => (ev G cl b s m).bind fun y m => opt m (semZT [x, y])
  | .srt e, s, m => (ev G cl e s m).bind fun x m => opt m (semN1 1 x m)
  | .srp e, s, m => (ev G cl e s m).bind fun x m => opt m (semN1 2 x m)
  | .sl a lo hi, s, m => (ev G cl a s m).bind fun x m => (pO lo.isNop m (ev G cl lo s m)).bind fun l m => (pO hi.isNop m (ev G cl hi s m)).bind fun h m => opt m ((x.lseq m).map fun q => cutD q l h)
  | .sl2 a lo, s, m => (ev G cl a s m).bind fun x m => (ev G cl lo s m).bind fun l m => opt m (match l with
    | .int i => if 0 ≤ i then (x.lseq m).map fun q => evry (q.drop i.toNat) else none
    | _ => none)
  | .srd e, s, m => (ev G cl e s m).bind fun x m => opt m (semN1 3 x m)
def evI (G : Str → Option D) (cl : Str → List D → Mem → R D) : It → Sl → Mem → R (List D)
  | .seq e, s, m => (ev G cl e s m).bind fun x m => opt m (semSeq x)
  | .rng es, s, m => (evs G cl es s m).bind fun ds m => opt m (semR ds)
  | .zip es, s, m => (evs G cl es s m).bind fun ds m => opt m (semZ ds)
  | .enum e, s, m => (ev G cl e s m).bind fun x m => opt m (semE x)
  | .str e, s, m => (ev G cl e s m).bind fun x m => opt m (match x with
    | .str z => if z.length ≤ lim then some (z.cps.toList.map fun c => .str ⟨#[c]⟩) else none
    | _ => none)
end
section
variable (G : Str → Option D) (cl : Str → List D → Mem → R D)
inductive Fl where
  | nx (s : Sl) | rt (d : D) | bk (s : Sl)
def asg1 (t : Tg) (d : D) (s : Sl) (m : Mem) : R Sl := match t with
  | .nm i => if i < s.length then .ok (s.set i (some d)) m else .err
  | .ix o i => (ev G cl o s m).bind fun x m => (ev G cl i s m).bind fun y m => (setD x y d m).bind fun _ m => .ok s m
  | .dk o i => (ev G cl o s m).bind fun x m => (ev G cl i s m).bind fun y m => (setK x y d m).bind fun _ m => .ok s m
def asgs : List Tg → List D → Sl → Mem → R Sl
  | [], [], s, m => .ok s m
  | t :: ts, d :: ds, s, m => (asg1 G cl t d s m).bind fun s m => asgs ts ds s m
  | _, _, _, _ => .err
def forL (f : D → Sl → Mem → R Fl) : List D → Sl → Mem → R Fl
  | [], s, m => .ok (.nx s) m
  | d :: ds, s, m => (f d s m).bind fun r m => match r with
    | .nx s => forL f ds s m
    | .bk s => .ok (.nx s) m
    | .rt d => .ok (.rt d) m
/-- over a list that may change: item after item -/
def lopL (n : Nat) (f : D → Sl → Mem → R Fl) : Nat → Nat → Sl → Mem → R Fl
  | 0, _, _, _ => .err
  | k + 1, i, s, m => match m[n]? with
    | some (.lst l) => (match l[i]? with
      | none => .ok (.nx s) m
      | some d => (f d s m).bind fun r m => match r with
        | .nx s => lopL n f k (i + 1) s m
        | .bk s => .ok (.nx s) m
        | .rt d => .ok (.rt d) m)
    | _ => .err
def refOf (m : Mem) : D → Option Nat
  | .ref n => (match m[n]? with
    | some (.lst _) => some n
    | _ => none)
  | _ => none
def whL (c : Sl → Mem → R Bool) (f : Sl → Mem → R Fl) : Nat → Sl → Mem → R Fl
  | 0, _, _ => .err
  | n + 1, s, m => (c s m).bind fun b m => if b then (f s m).bind fun r m => (match r with
    | .nx s => whL c f n s m
    | .bk s => .ok (.nx s) m
    | .rt d => .ok (.rt d) m) else .ok (.nx s) m
def evS : S → Sl → Mem → R Fl
  | .nop, s, m => .ok (.nx s) m
  | .seq a b, s, m => (evS a s m).bind fun r m => match r with
    | .nx s => evS b s m
    | r => .ok r m
  | .asg t e, s, m => (ev G cl e s m).bind fun d m => (asg1 G cl t d s m).bind fun s m => .ok (.nx s) m
  | .tpl ts e, s, m => (ev G cl e s m).bind fun d m => match d with
    | .tup ds => if ds.length = ts.length then (asgs G cl ts ds s m).bind fun s m => .ok (.nx s) m else .err
    | _ => .err
  | .par is es, s, m => (evs G cl es s m).bind fun ds m => match setAll is ds s with
    | some s => .ok (.nx s) m
    | none => .err
  | .exp e, s, m => (ev G cl e s m).bind fun _ m => .ok (.nx s) m
  | .ret e, s, m => (ev G cl e s m).bind fun d m => .ok (.rt d) m
  | .ite c a b, s, m => (tst (ev G cl c s m)).bind fun x m => if x then evS a s m else evS b s m
  | .loop tp vs it b, s, m => (evI G cl it s m).bind fun items m => forL (fun d s m => match asgN tp vs d s with
    | none => .err
    | some s => evS b s m) items s m
  | .whl c b, s, m => whL (fun s m => tst (ev G cl c s m)) (fun s m => evS b s m) lim s m
  | .brk, s, m => .ok (.bk s) m
  | .never, _, _ => .err
  | .rse c, _, m => .exc ⟨c, []⟩ m
  | .rsx c f e, s, m => (ev G cl e s m).bind fun d m => .exc ⟨c, [(f, d)]⟩ m
  | .tri b tb, s, m => match evS b s m with
    | .exc x m => match tab x.cls tb with
      | some d => .ok (.rt d) m
      | none => .err
    | r => r
  | .trf b c f, s, m => match evS b s m with
    | .exc x m => if x.cls = c then (match x.fs.lookup f with
      | some d => .ok (.rt d) m
      | none => .err) else .err
    | r => r
  | .lop tp vs e b, s, m => ((ev G cl e s m).bind fun x m => opt m (refOf m x)).bind fun n m => lopL n (fun d s m => match asgN tp vs d s with
    | none => .err
    | some s => evS b s m) (lim + 1) 0 s m
  | .fas o C f e, s, m => (ev G cl e s m).bind fun y m => (ev G cl o s m).bind fun x m => (setF x C f y m).bind fun _ m => .ok (.nx s) m
  | .frz i, s, m => match s[i]? with
    | some (some (.ref n)) => (match m[n]? with
      | some (.lst l) => .ok (.nx (s.set i (some (.lst l)))) (m.set n .dead)
      | _ => .err)
    | _ => .err
end
structure Fn where
  n : Nat
  k : Nat
  body : S
structure Gam where
  con : Str → Option D
  fn : Str → Option Fn
  exc : List (Str × List (Str × Bool)) := []
  /-- methods: class, name, key in fn; fields: class, name -/
  mth : List (Str × Str × Str) := []
  fls : List (Str × Str) := []
  /-- defs that call what they get: name, value at a good end, values by the exception's class -/
  lmf : List (Str × D × List (Str × D)) := []
  /-- exception classes with an own __init__: class, field, which classes it is of -/
  xsi : List (Str × Str × List (Str × Bool)) := []
  /-- properties: class, name, key; classes with *holes in __init__: class, key; classes with own operators -/
  prp : List (Str × Str × Str) := []
  mks : List (Str × Str) := []
  opc : List Str := []
def fin : R Fl → R D
  | .ok (.nx _) m => .ok .non m
  | .ok (.rt d) m => .ok d m
  | .ok (.bk _) _ => .err
  | .exc x m => .exc x m
  | .err => .err
def callN (Γ : Gam) : Nat → Str → List D → Mem → R D
  | 0, _, _, _ => .err
  | n + 1, f, ds, m => match Γ.fn f with
    | none => if f = "↓" then (match ds with
      | .str g :: ds => callN Γ n g ds m
      | _ => .err) else .err
    | some fn => if ds.length = fn.k then fin (evS Γ.con (callN Γ n) fn.body (ds.map some ++ List.replicate (fn.n - fn.k) none) m) else .err
end LR

set_option Elab.async false
set_option linter.all false
set_option maxRecDepth 100000
set_option maxHeartbeats 4000000
namespace LR
open PySem PySem.Spec PyProof.Rows L2

theorem lim_line : lim ≤ sizeLine := by rw [sizeLine_eq]; decide
theorem le_line {n : Nat} (h : n ≤ lim) : n ≤ sizeLine := Nat.le_trans h lim_line
theorem lt_line {n : Nat} (h : n < lim) : n < sizeLine := Nat.lt_of_lt_of_le h lim_line

/-! ### what an end asks -/
/-- an exception's own dict -/
def XD (K : PySem.W.Frag) (w : Wd) (fs : List (Str × D)) (d : Option Addr) : Prop := (fs = [] ∧ d = none) ∨ ∃ dx fs', fs ≠ [] ∧ d = some dx ∧ w.H dx = some (.xd fs') ∧ RFs K w fs' fs
def XDH (d : Option Addr) (H : Hp) : Prop := ∀ dx, d = some dx → ∃ fs, H dx = some (.xd fs)
theorem XD.h {K : PySem.W.Frag} {w : Wd} {fs : List (Str × D)} {d : Option Addr} (h : XD K w fs d) : XDH d w.H := fun dx e => by
  rcases h with ⟨_, h⟩ | ⟨dx', fs', _, h, h2, _⟩
  · rw [h] at e; cases e
  · rw [h] at e; cases e; exact ⟨fs', h2⟩
section
variable (K : PySem.W.Frag) (cn : Cn) (mg : Str → Option Value)
def Post {α β : Type} (rel : Wd → β → α → Prop) (Q : β → Hp → Prop) (E : XK) (w : Wd) : R α → Prop
  | .ok a m => ∀ (w' : Wd) (b : β), w'.m = m → RM K cn w' → Fr w w' → rel w' b a → Q b w'.H
  | .exc x m => ∀ (w' : Wd) (cls : Value) (d : Option Addr), w'.m = m → RM K cn w' → Fr w w' → mg x.cls = some cls → XD K w' x.fs d → E cls d w'.H
  | .err => False
def RS (w : Wd) (σ : L2.St) (s : Sl) : Prop := s.length = σ.length ∧ ∀ (i : Nat) (d : D), s[i]? = some (some d) → ∃ v, σ[i]? = some (some v) ∧ Rv K w v d
def relB : Wd → Bool → Bool → Prop := fun _ b a => b = a
end
section
variable {K : PySem.W.Frag} {cn : Cn} {mg : Str → Option Value} {α β α' β' : Type} {rel : Wd → β → α → Prop} {rel' : Wd → β' → α' → Prop} {Q : β → Hp → Prop} {Q' : β' → Hp → Prop} {E : XK} {w w1 : Wd}
theorem Post.later {r : R α} (f : Fr w w1) (h : Post K cn mg rel Q E w r) : Post K cn mg rel Q E w1 r := by
  cases r with
  | ok a m => exact fun w' b hm rm fr hr => h w' b hm rm (f.trans fr) hr
  | exc x m => exact fun w' cls d hm rm fr hc hf => h w' cls d hm rm (f.trans fr) hc hf
  | err => exact h
theorem Post.split {r : R α'} {f : α' → Mem → R α} (h : Post K cn mg rel Q E w (r.bind f))
    (k : ∀ (a : α') (w1 : Wd) (b : β'), RM K cn w1 → Fr w w1 → rel' w1 b a → Post K cn mg rel Q E w1 (f a w1.m) → Q' b w1.H) : Post K cn mg rel' Q' E w r := by
  cases r with
  | ok a m =>
    intro w1 b hm rm fr hr
    have h2 : Post K cn mg rel Q E w (f a m) := h
    rw [← hm] at h2
    exact k a w1 b rm fr hr (h2.later fr)
  | exc x m => exact h
  | err => exact h
theorem Post.imp {r : R α} {Q2 : β → Hp → Prop} (h : Post K cn mg rel Q E w r) (i : ∀ b H, Q b H → Q2 b H) : Post K cn mg rel Q2 E w r := by
  cases r with
  | ok a m => exact fun w' b hm rm fr hr => i _ _ (h w' b hm rm fr hr)
  | exc x m => exact h
  | err => exact h
theorem RS.mono {σ : L2.St} {s : Sl} (f : Fw w w1) (h : RS K w σ s) : RS K w1 σ s := ⟨h.1, fun i d e => let ⟨v, h1, h2⟩ := h.2 i d e; ⟨v, h1, h2.mono f⟩⟩
theorem RS.set {σ : L2.St} {s : Sl} (h : RS K w σ s) (i : Nat) {v : V} {d : D} (hi : i < s.length) (r : Rv K w v d) : RS K w (σ.set i (some v)) (s.set i (some d)) := by
  refine ⟨by rw [List.length_set, List.length_set]; exact h.1, fun j e he => ?_⟩
  by_cases hj : i = j
  · subst hj
    rw [List.getElem?_set_self hi] at he
    cases he
    exact ⟨v, by rw [List.getElem?_set_self (by rw [← h.1]; exact hi)], r⟩
  · rw [List.getElem?_set_ne hj] at he
    obtain ⟨u, h1, h2⟩ := h.2 j e he
    exact ⟨u, by rw [List.getElem?_set_ne hj]; exact h1, h2⟩
end
theorem pe_imp {X : Cx} {e : Expr} {t t' : TE} (h : PE X e t) (i : ∀ σ H Q, t' σ H Q → t σ H Q) : PE X e t' := ⟨fun pins s σ H Q I q => h.run pins s σ H Q I (i σ H Q q)⟩
theorem pt_imp {X : Cx} {e : Expr} {t t' : TT} (h : PT X e t) (i : ∀ σ H Q, t' σ H Q → t σ H Q) : PT X e t' := ⟨fun pins s σ H Q I q => h.run pins s σ H Q I (i σ H Q q)⟩
theorem pw_imp {X : Cx} {e : Expr} {t t' : TT} (h : PW X e t) (i : ∀ σ H Q, t' σ H Q → t σ H Q) : PW X e t' := ⟨fun wh pins s σ H Q I q => h.run wh pins s σ H Q I (i σ H Q q)⟩
theorem pa_imp {X : Cx} {es : List Expr} {t t' : TA} (h : PA X es t) (i : ∀ σ H Q, t' σ H Q → t σ H Q) : PA X es t' := ⟨fun pos pins s σ H Q I q => h.run pos pins s σ H Q I (i σ H Q q)⟩
theorem ps_imp {X : Cx} {e : Stmt} {t t' : TS} (h : PS X e t) (i : ∀ D σ H, t' D σ H → t D σ H) : PS X e t' := ⟨fun pins s σ H D I q => h.run pins s σ H D I (i D σ H q)⟩
theorem pss_imp {X : Cx} {e : List Stmt} {t t' : TS} (h : PSs X e t) (i : ∀ D σ H, t' D σ H → t D σ H) : PSs X e t' := ⟨fun pins s σ H D I q => h.run pins s σ H D I (i D σ H q)⟩
theorem po_imp {X : Cx} {e : Option Expr} {t t' : TO} (h : PO X e t) (i : ∀ σ H Q, t' σ H Q → t σ H Q) : PO X e t' := ⟨fun pins s σ H Q I q => h.run pins s σ H Q I (i σ H Q q)⟩
theorem pi_imp {X : Cx} {tg e : Expr} {t t' : TI} (h : PI X tg e t) (i : ∀ σ H Q, t' σ H Q → t σ H Q) : PI X tg e t' := ⟨fun pins s σ H Q I q => h.run pins s σ H Q I (i σ H Q q)⟩

/-! ### the readings -/
section
variable (K : PySem.W.Frag) (cn : Cn) (mg : Str → Option Value) (G : Str → Option D) (cl : Str → List D → Mem → R D) (W : WX)
def tE (e : E) : TE := fun σ H Q => ∃ (w : Wd) (s : Sl), w.H = H ∧ RM K cn w ∧ RS K w σ s ∧ Post K cn mg (Rv K) Q (WE W σ) w (ev G cl e s w.m)
def tT (e : E) : TT := fun σ H Q => ∃ (w : Wd) (s : Sl), w.H = H ∧ RM K cn w ∧ RS K w σ s ∧ Post K cn mg relB Q (WE W σ) w (tst (ev G cl e s w.m))
def tA (es : Es) : TA := fun σ H Q => ∃ (w : Wd) (s : Sl), w.H = H ∧ RM K cn w ∧ RS K w σ s ∧ Post K cn mg (Rvs K) Q (WE W σ) w (evs G cl es s w.m)
def tO (e : E) : TO := fun σ H Q => ∃ (w : Wd) (s : Sl), w.H = H ∧ RM K cn w ∧ RS K w σ s ∧ Post K cn mg (fun _ b a => b = a) Q (WE W σ) w (pO e.isNop w.m (ev G cl e s w.m))
/-- a list just made: it grows apart still -/
def Grown (w : Wd) (Q : VK) (ds : List D) (m : Mem) : Prop := ∀ (w' : Wd) (a : Addr) (xs : List V), w'.m = m → RM K cn w' → Fr w (w'.ungrow w.X) → w'.X = a :: w.X → Free w a → a ∉ w.X → w'.H a = some (.lst xs) → Rvs K w' xs ds → Q (.ref a) w'.H
def PostN (Q : VK) (E : XK) (w : Wd) : R (List D) → Prop
  | .ok ds m => Grown K cn w Q ds m
  | .exc x m => ∀ (w' : Wd) (cls : Value) (d : Option Addr), w'.m = m → RM K cn w' → Fr w w' → mg x.cls = some cls → XD K w' x.fs d → E cls d w'.H
  | .err => False
def tN (n : N) : TE := fun σ H Q => ∃ (w : Wd) (s : Sl), w.H = H ∧ RM K cn w ∧ RS K w σ s ∧ PostN K cn mg Q (WE W σ) w (evN G cl n s w.m)
/-- a walk that serves the items, from the world w0 on -/
def Serves (J : L2.It) (items : List D) (w0 : Wd) : Prop :=
  (∀ (w : Wd) (i : Nat), RM K cn w → Fw w0 w → i < items.length → J.go i w.H ∧ ∀ v H', J.yld i w.H v H' → ∃ (w' : Wd) (d : D), w'.H = H' ∧ w'.m = w.m ∧ RM K cn w' ∧ Fr w w' ∧ items[i]? = some d ∧ Rv K w' v d) ∧
  (∀ (w : Wd), RM K cn w → Fw w0 w → J.stop items.length w.H)
def tI (it : It) : TI := fun σ H Q => ∃ (w : Wd) (s : Sl), w.H = H ∧ RM K cn w ∧ RS K w σ s ∧ Post K cn mg (fun w' J items => Serves K cn J items w' ∧ items.length ≤ lim) Q (WE W σ) w (evI G cl it s w.m)
end
end LR

set_option Elab.async false
set_option linter.all false
set_option maxRecDepth 100000
set_option maxHeartbeats 4000000
namespace LR
open PySem PySem.Spec PyProof.Rows L2
/-! ### isinstance of an exception that may have a dict -/
def exPre (i : Nat) (a : Addr) (d : Option Addr) (σ : L2.St) (H : Hp) : Prop := σ[i]? = some (some (.ref a)) ∧ XDH d H
def rIsD (K : PySem.W.Frag) (D a : Addr) (d : Option Addr) : List V → Hp → VK → Prop := fun xs H Q => XDH d H ∧ ∃ (c : V) (cv : Value) (b : Bool), xs = [.ref a, c] ∧ (∀ u, RelV c u → u = cv) ∧ PySem.W.kitOne K (.ref D) cv = some b ∧ Q (.bl b) H
theorem call_isD {X : Cx} {a D : Addr} {d : Option Addr} {oe : Obj} {pn : List (Addr × Obj)} (C : ExcC X.K D) (hz : Zc (.ref D) d oe) (hf : ∃ vs, oe.data = .fields vs) : CallR (X.suite a ((a, oe) :: pn)) (.builtin "isinstance") (rIsD X.K D a d) := by
  intro pins s σ H xs us Q I r h
  obtain ⟨hx, c, cv, b, rfl, hcv, e, q⟩ := h
  cases r with
  | cons rx rr =>
    cases rr with
    | cons rt rr =>
      cases rr
      cases rx
      have ec := hcv _ rt
      subst ec
      obtain ⟨hget, _⟩ := I.pin (a, oe) (List.mem_append.mpr (.inl List.mem_cons_self))
      obtain ⟨vs, hv⟩ := hf
      have hcl : (PySem.W.clsIn X.K D).isSome = true := by
        obtain ⟨cd, h, _⟩ := PySem.W.any_some C.hd
        rw [h]
        rfl
      have J : ∃ od, PySem.W.InstAt s.heap a oe D od := by
        obtain ⟨oc, od, oda, osl⟩ := oe
        obtain ⟨h1, h2⟩ := hz
        dsimp only at h1 h2 hv
        subst h1 h2 hv
        cases od with
        | none => exact ⟨none, hget, rfl, rfl, trivial⟩
        | some dx =>
          obtain ⟨fs, hfs⟩ := hx dx rfl
          obtain ⟨mA, ⟨o, es, ep, ho, _⟩, _⟩ := (show ObjOk X.prog X.w H s.heap dx (.xd fs) from I.hok dx _ hfs)
          exact ⟨some o, hget, rfl, rfl, ho⟩
      obtain ⟨od, J⟩ := J
      exact PySem.W.kia_one (PySem.W.kitx_exc hcl C.hg C.hk C.hs C.ha C.hn C.ht C.hm) I.kIn J e (fun z => nomatch z) fun tk => ⟨.bl b, H, I.kept (t' := tk) fun _ _ z => z, rfl, q⟩
end LR

set_option Elab.async false
set_option linter.all false
set_option maxRecDepth 100000
set_option maxHeartbeats 4000000
namespace LR
open PySem PySem.Spec PyProof.Rows L2
structure Ec where
  cn : Cn
  G : Str → Option D
  cl : Str → List D → Mem → R D
section
variable {X : Cx} {Z : Ec} {W : WX} {e e1 e2 e3 : Expr} {a b c : E} {pos : Pos}
abbrev eE (X : Cx) (Z : Ec) (W : WX) (a : E) : TE := tE X.K Z.cn X.mg Z.G Z.cl W a
abbrev eT (X : Cx) (Z : Ec) (W : WX) (a : E) : TT := tT X.K Z.cn X.mg Z.G Z.cl W a
abbrev eA (X : Cx) (Z : Ec) (W : WX) (a : Es) : TA := tA X.K Z.cn X.mg Z.G Z.cl W a
abbrev eO (X : Cx) (Z : Ec) (W : WX) (a : E) : TO := tO X.K Z.cn X.mg Z.G Z.cl W a
abbrev eN (X : Cx) (Z : Ec) (W : WX) (a : N) : TE := tN X.K Z.cn X.mg Z.G Z.cl W a
abbrev eI (X : Cx) (Z : Ec) (W : WX) (a : It) : TI := tI X.K Z.cn X.mg Z.G Z.cl W a
theorem Post.ok {α β : Type} {K : PySem.W.Frag} {mg : Str → Option Value} {rel : Wd → β → α → Prop} {Q : β → Hp → Prop} {E : XK} {w : Wd} {a : α} {b : β} (rm : RM K cn w) (p : Post K cn mg rel Q E w (.ok a w.m)) (r : rel w b a) : Q b w.H :=
  p w b rfl rm (Fr.refl w) r
theorem ev_c {d : D} {s : Sl} {m : Mem} : ev Z.G Z.cl (.c d) s m = .ok d m := by rw [ev]
theorem se_int {i : Int} {j : Nat} : PE X (.Constant (.int i) j pos) (eE X Z W (.c (.int i))) := pe_imp pe_int fun σ H Q ⟨w, s, hw, rm, rs, p⟩ => by
  subst hw; rw [ev_c] at p; exact p.ok rm (.int i)
theorem se_bl {i : Bool} {j : Nat} : PE X (.Constant (.bool i) j pos) (eE X Z W (.c (.bl i))) := pe_imp pe_bl fun σ H Q ⟨w, s, hw, rm, rs, p⟩ => by
  subst hw; rw [ev_c] at p; exact p.ok rm (.bl i)
theorem se_str {i : Str} {j : Nat} : PE X (.Constant (.str i) j pos) (eE X Z W (.c (.str i))) := pe_imp pe_str fun σ H Q ⟨w, s, hw, rm, rs, p⟩ => by
  subst hw; rw [ev_c] at p; exact p.ok rm (.str i)
theorem se_non {j : Nat} : PE X (.Constant .none j pos) (eE X Z W (.c .non)) := pe_imp pe_non fun σ H Q ⟨w, s, hw, rm, rs, p⟩ => by
  subst hw; rw [ev_c] at p; exact p.ok rm .non
theorem se_var {i : Nat} {x : Str} (hN : X.N[i]? = some x) (hv : Vis X.env.scope x) (hd : (x == ("__debug__" : Str)) = false) (hcd : (x == ("__classdict__" : Str)) = false) : PE X (.Name x pos) (eE X Z W (.v i)) :=
  pe_imp (pe_var hN hv hd hcd) fun σ H Q ⟨w, s, hw, rm, rs, p⟩ => by
    subst hw
    rw [ev] at p
    split at p
    · rename_i d hs
      obtain ⟨v, h1, h2⟩ := rs.2 i d hs
      exact ⟨v, h1, p.ok rm h2⟩
    · exact p.elim
theorem se_glob {x : Str} {d : D} (hg : Gl X x) (hG : Z.G x = some d) (hm : ∃ u v, X.mg x = some u ∧ RelV v u ∧ ∀ w, Rv X.K w v d) (hd : (x == ("__debug__" : Str)) = false) : PE X (.Name x pos) (eE X Z W (.g x)) := by
  obtain ⟨u, v, h1, h2, h3⟩ := hm
  refine pe_imp (pe_glob hg h1 h2 hd) fun σ H Q ⟨w, s, hw, rm, rs, p⟩ => ?_
  subst hw
  rw [ev, hG] at p
  exact p.ok rm (h3 w)
/-- a value as a test -/
theorem st_val (h : PE X e (eE X Z W a)) (he : ∀ whole, isTrue e X.env whole = (do let v ← whole; standAt e.pos; holding [v] (truthy v))) : PT X e (eT X Z W a) :=
  pt_imp (pt_val h he) fun σ H Q ⟨w, s, hw, rm, rs, p⟩ => by
    subst hw
    refine ⟨w, s, rfl, rm, rs, p.split fun d w1 v rm1 fr rv p1 => ?_⟩
    cases rv with
    | bl x => exact ⟨x, rfl, p1.ok rm1 rfl⟩
    | _ => exact p1.elim
/-! ### operators -/
def OpS (K : PySem.W.Frag) (cn : Cn) (k : O2) (r : R2) : Prop := ∀ (w : Wd) (x y : V) (dx dy d : D) (Q : VK), RM K cn w → Rv K w x dx → Rv K w y dy → sem2 k dx dy w.m = some d →
  (∀ (w' : Wd) (v : V), w'.m = w.m → RM K cn w' → Fr w w' → Rv K w' v d → Q v w'.H) → r x y w.H Q
theorem Post.opt {α β : Type} {K : PySem.W.Frag} {mg : Str → Option Value} {rel : Wd → β → α → Prop} {Q : β → Hp → Prop} {E : XK} {w : Wd} {o : Option α} (p : Post K cn mg rel Q E w (LR.opt w.m o)) :
    ∃ d, o = some d ∧ ∀ (w' : Wd) (b : β), w'.m = w.m → RM K cn w' → Fr w w' → rel w' b d → Q b w'.H := by
  cases o with
  | none => exact p.elim
  | some d => exact ⟨d, rfl, p⟩
theorem o2_core {op : Value → Value → Sem Value} {k : O2} {r : R2} (os : OpS X.K Z.cn k r) {σ : L2.St} {H : Hp} {Q : VK} (h : eE X Z W (.o2 k a b) σ H Q) : tOp r (eE X Z W a) (eE X Z W b) σ H Q := by
  obtain ⟨w, s, hw, rm, rs, p⟩ := h
  subst hw
  rw [ev] at p
  refine ⟨w, s, rfl, rm, rs, p.split fun dx w1 x rm1 fr1 rx p1 => ?_⟩
  refine ⟨w1, s, rfl, rm1, rs.mono fr1.wk, p1.split fun dy w2 y rm2 fr2 ry p2 => ?_⟩
  obtain ⟨d, hd, q⟩ := p2.opt
  exact os w2 x y dx dy d Q rm2 (rx.mono fr2.wk) ry hd q
theorem se_bin {op : Operator} {k : O2} {r : R2} (ho : OpR X (binaryOp op) r) (os : OpS X.K Z.cn k r) (ha : PE X e1 (eE X Z W a)) (hb : PE X e2 (eE X Z W b)) : PE X (.BinOp e1 op e2 pos) (eE X Z W (.o2 k a b)) :=
  pe_imp (pe_op ho ha hb) fun σ H Q h => o2_core (op := binaryOp op) os h
theorem se_cmp {op : CmpOp} {k : O2} {r : R2} (ho : OpR X (compareOp op) r) (os : OpS X.K Z.cn k r) (ha : PE X e1 (eE X Z W a)) (hb : PE X e2 (eE X Z W b)) (hm : behindInMarks op e2 = false) : PE X (.Compare e1 [op] [e2] pos) (eE X Z W (.o2 k a b)) :=
  pe_imp (pe_cmpR ho ha hb hm) fun σ H Q h => o2_core (op := compareOp op) os h
/-- a value's reading, where a test asks the bool -/
theorem tT_tE {σ : L2.St} {H : Hp} {Q : Bool → Hp → Prop} (h : eT X Z W a σ H Q) : eE X Z W a σ H (fun x H1 => ∃ k, x = .bl k ∧ Q k H1) := by
  obtain ⟨w, s, hw, rm, rs, p⟩ := h
  subst hw
  refine ⟨w, s, rfl, rm, rs, p.split fun d w1 v rm1 fr rv p1 => ?_⟩
  cases rv with
  | bl x => exact ⟨x, rfl, p1.ok rm1 rfl⟩
  | _ => exact p1.elim
theorem post_swap {K : PySem.W.Frag} {mg : Str → Option Value} {Q : Bool → Hp → Prop} {E : XK} {w : Wd} {r : R D} (h : Post K cn mg relB Q E w (tst r)) : Post K cn mg (Rv K) (fun x H1 => ∃ k, x = .bl k ∧ Q k H1) E w r :=
  h.split fun d w1 v rm1 fr rv p1 => by
    cases rv with
    | bl x => exact ⟨x, rfl, p1.ok rm1 rfl⟩
    | _ => exact p1.elim
theorem st_cmp {op : CmpOp} {k : O2} {r : R2} (ho : OpR X (compareOp op) r) (os : OpS X.K Z.cn k r) (ha : PE X e1 (eE X Z W a)) (hb : PE X e2 (eE X Z W b)) (hm : behindInMarks op e2 = false) : PT X (.Compare e1 [op] [e2] pos) (eT X Z W (.o2 k a b)) :=
  pt_imp (pt_cmpR ho ha hb hm) fun σ H Q h => o2_core (op := compareOp op) os (tT_tE h)
theorem ch_core {k k' : O2} {r r' : R2} (os : OpS X.K Z.cn k r) (os' : OpS X.K Z.cn k' r') {σ : L2.St} {H : Hp} {Q : VK} (h : eE X Z W (.ch k k' a b c) σ H Q) : tChain r r' (eE X Z W a) (eE X Z W b) (eE X Z W c) σ H Q := by
  obtain ⟨w, s, hw, rm, rs, p⟩ := h
  subst hw
  rw [ev] at p
  refine ⟨w, s, rfl, rm, rs, p.split fun dx w1 x rm1 fr1 rx p1 => ?_⟩
  refine ⟨w1, s, rfl, rm1, rs.mono fr1.wk, p1.split fun dy w2 y rm2 fr2 ry p2 => ?_⟩
  cases hd : sem2 k dx dy w2.m with
  | none => rw [hd] at p2; exact p2.elim
  | some d =>
    rw [hd] at p2
    refine os w2 x y dx dy d _ rm2 (rx.mono fr2.wk) ry hd fun w3 v hm3 rm3 fr3 rv => ?_
    cases rv with
    | bl z =>
      refine ⟨z, rfl, ?_⟩
      have p3 := p2.later fr3
      rw [← hm3] at p3
      cases z with
      | true =>
        refine iteT ?_
        refine ⟨w3, s, rfl, rm3, ((rs.mono fr1.wk).mono fr2.wk).mono fr3.wk, p3.split fun dz w4 u rm4 fr4 ru p4 => ?_⟩
        obtain ⟨d', hd', q⟩ := p4.opt
        exact os' w4 y u dy dz d' Q rm4 ((ry.mono fr3.wk).mono fr4.wk) ru hd' q
      | false =>
        refine iteF ?_
        exact p3.ok rm3 (.bl false)
    | _ => exact p2.elim
theorem se_ch {op op' : CmpOp} {k k' : O2} {r r' : R2} (ho : OpR X (compareOp op) r) (ho' : OpR X (compareOp op') r') (os : OpS X.K Z.cn k r) (os' : OpS X.K Z.cn k' r') (ha : PE X e1 (eE X Z W a)) (hb : PE X e2 (eE X Z W b)) (hc : PE X e3 (eE X Z W c))
    (hm : lastMarks [op, op'] [e2, e3] = false) : PE X (.Compare e1 [op, op'] [e2, e3] pos) (eE X Z W (.ch k k' a b c)) :=
  pe_imp (pe_chain ho ho' ha hb hc hm) fun σ H Q h => ch_core os os' h
theorem st_ch {op op' : CmpOp} {k k' : O2} {r r' : R2} (ho : OpR X (compareOp op) r) (ho' : OpR X (compareOp op') r') (os : OpS X.K Z.cn k r) (os' : OpS X.K Z.cn k' r') (ha : PE X e1 (eE X Z W a)) (hb : PE X e2 (eE X Z W b)) (hc : PE X e3 (eE X Z W c))
    (hm : lastMarks [op, op'] [e2, e3] = false) : PT X (.Compare e1 [op, op'] [e2, e3] pos) (eT X Z W (.ch k k' a b c)) :=
  pt_imp (pt_chain ho ho' ha hb hc hm) fun σ H Q h => ch_core os os' (tT_tE h)

/-! ### and, or, not, a if t else b -/
variable {rest : List Expr}
theorem and_core {σ : L2.St} {H : Hp} {Q : VK} (h : eE X Z W (.and a b) σ H Q) : tAndV (eE X Z W a) (eE X Z W b) σ H Q := by
  obtain ⟨w, s, hw, rm, rs, p⟩ := h
  subst hw
  rw [ev] at p
  refine ⟨w, s, rfl, rm, rs, p.split fun d w1 v rm1 fr rv p1 => ?_⟩
  cases rv with
  | bl x =>
    refine ⟨x, rfl, ?_⟩
    cases x with
    | true => exact iteT ⟨w1, s, rfl, rm1, rs.mono fr.wk, p1⟩
    | false => exact iteF (p1.ok rm1 (.bl false))
  | _ => exact p1.elim
theorem se_and (ha : PE X e1 (eE X Z W a)) (hb : PE X (.BoolOp .And (e2 :: rest) pos) (eE X Z W b)) : PE X (.BoolOp .And (e1 :: e2 :: rest) pos) (eE X Z W (.and a b)) :=
  pe_imp (pe_and ha hb) fun σ H Q h => and_core h
theorem or_core {σ : L2.St} {H : Hp} {Q : VK} (h : eE X Z W (.or a b) σ H Q) : tOrV (eE X Z W a) (eE X Z W b) σ H Q := by
  obtain ⟨w, s, hw, rm, rs, p⟩ := h
  subst hw
  rw [ev] at p
  refine ⟨w, s, rfl, rm, rs, p.split fun d w1 v rm1 fr rv p1 => ?_⟩
  cases rv with
  | bl x =>
    refine ⟨x, rfl, ?_⟩
    cases x with
    | true => exact iteT (p1.ok rm1 (.bl true))
    | false => exact iteF ⟨w1, s, rfl, rm1, rs.mono fr.wk, p1⟩
  | _ => exact p1.elim
theorem se_or (ha : PE X e1 (eE X Z W a)) (hb : PE X (.BoolOp .Or (e2 :: rest) pos) (eE X Z W b)) : PE X (.BoolOp .Or (e1 :: e2 :: rest) pos) (eE X Z W (.or a b)) :=
  pe_imp (pe_or ha hb) fun σ H Q h => or_core h
theorem andT_core {σ : L2.St} {H : Hp} {Q : Bool → Hp → Prop} (h : eT X Z W (.and a b) σ H Q) : tAnd (eT X Z W a) (eT X Z W b) σ H Q := by
  obtain ⟨w, s, hw, rm, rs, p⟩ := h
  subst hw
  rw [ev] at p
  refine ⟨w, s, rfl, rm, rs, ?_⟩
  cases hr : ev Z.G Z.cl a s w.m with
  | err => rw [hr] at p; exact p
  | exc x m => rw [hr] at p; exact p
  | ok d m =>
    rw [hr] at p
    cases d with
    | bl x =>
      intro w1 b1 hm rm1 fr hb
      subst hb
      cases b1 with
      | true =>
        refine iteT ⟨w1, s, rfl, rm1, rs.mono fr.wk, ?_⟩
        have p2 : Post X.K Z.cn X.mg relB Q (WE W σ) w (tst (ev Z.G Z.cl b s m)) := p
        rw [← hm] at p2
        exact p2.later fr
      | false => exact iteF (p w1 false hm rm1 fr rfl)
    | _ => exact p.elim
theorem orT_core {σ : L2.St} {H : Hp} {Q : Bool → Hp → Prop} (h : eT X Z W (.or a b) σ H Q) : tOr (eT X Z W a) (eT X Z W b) σ H Q := by
  obtain ⟨w, s, hw, rm, rs, p⟩ := h
  subst hw
  rw [ev] at p
  refine ⟨w, s, rfl, rm, rs, ?_⟩
  cases hr : ev Z.G Z.cl a s w.m with
  | err => rw [hr] at p; exact p
  | exc x m => rw [hr] at p; exact p
  | ok d m =>
    rw [hr] at p
    cases d with
    | bl x =>
      intro w1 b1 hm rm1 fr hb
      subst hb
      cases b1 with
      | false =>
        refine iteF ⟨w1, s, rfl, rm1, rs.mono fr.wk, ?_⟩
        have p2 : Post X.K Z.cn X.mg relB Q (WE W σ) w (tst (ev Z.G Z.cl b s m)) := p
        rw [← hm] at p2
        exact p2.later fr
      | true => exact iteT (p w1 true hm rm1 fr rfl)
    | _ => exact p.elim
theorem sw_and (ha : PT X e1 (eT X Z W a)) (hb : PW X (.BoolOp .And (e2 :: rest) pos) (eT X Z W b)) : PW X (.BoolOp .And (e1 :: e2 :: rest) pos) (eT X Z W (.and a b)) :=
  pw_imp (pw_and ha hb) fun σ H Q h => andT_core h
theorem sw_or (ha : PT X e1 (eT X Z W a)) (hb : PW X (.BoolOp .Or (e2 :: rest) pos) (eT X Z W b)) : PW X (.BoolOp .Or (e1 :: e2 :: rest) pos) (eT X Z W (.or a b)) :=
  pw_imp (pw_or ha hb) fun σ H Q h => orT_core h
theorem se_not (ha : PE X e (eE X Z W a)) : PE X (.UnaryOp .Not e pos) (eE X Z W (.no a)) :=
  pe_imp (pe_not ha) fun σ H Q ⟨w, s, hw, rm, rs, p⟩ => by
    subst hw
    rw [ev] at p
    refine ⟨w, s, rfl, rm, rs, p.split fun d w1 v rm1 fr rv p1 => ?_⟩
    cases rv with
    | bl x => exact ⟨x, rfl, p1.ok rm1 (.bl _)⟩
    | _ => exact p1.elim
theorem st_not (ha : PT X e (eT X Z W a)) : PT X (.UnaryOp .Not e pos) (eT X Z W (.no a)) :=
  pt_imp (pt_not ha) fun σ H Q ⟨w, s, hw, rm, rs, p⟩ => by
    subst hw
    rw [ev] at p
    refine ⟨w, s, rfl, rm, rs, ?_⟩
    cases hr : ev Z.G Z.cl a s w.m with
    | err => rw [hr] at p; exact p
    | exc x m => rw [hr] at p; exact p
    | ok d m =>
      rw [hr] at p
      cases d with
      | bl x =>
        intro w1 b1 hm rm1 fr hb
        subst hb
        exact p w1 (!b1) hm rm1 fr rfl
      | _ => exact p.elim
theorem se_ite {t : E} (ht : PT X e1 (eT X Z W t)) (ha : PE X e2 (eE X Z W a)) (hb : PE X e3 (eE X Z W b)) : PE X (.IfExp e1 e2 e3 pos) (eE X Z W (.ite t a b)) :=
  pe_imp (pe_ifExp ht ha hb) fun σ H Q ⟨w, s, hw, rm, rs, p⟩ => by
    subst hw
    rw [ev] at p
    refine ⟨w, s, rfl, rm, rs, ?_⟩
    cases hr : ev Z.G Z.cl t s w.m with
    | err => rw [hr] at p; exact p
    | exc x m => rw [hr] at p; exact p
    | ok d m =>
      rw [hr] at p
      cases d with
      | bl x =>
        intro w1 b1 hm rm1 fr hb
        subst hb
        cases b1 with
        | true =>
          refine iteT ⟨w1, s, rfl, rm1, rs.mono fr.wk, ?_⟩
          have p2 : Post X.K Z.cn X.mg (Rv X.K) Q (WE W σ) w (ev Z.G Z.cl a s m) := p
          rw [← hm] at p2
          exact p2.later fr
        | false =>
          refine iteF ⟨w1, s, rfl, rm1, rs.mono fr.wk, ?_⟩
          have p2 : Post X.K Z.cn X.mg (Rv X.K) Q (WE W σ) w (ev Z.G Z.cl b s m) := p
          rw [← hm] at p2
          exact p2.later fr
      | _ => exact p.elim
/-- a if t else b as a test -/
theorem st_ite {t : E} (he : PE X (.IfExp e1 e2 e3 pos) (eE X Z W (.ite t a b))) (h : False) : PT X (.IfExp e1 e2 e3 pos) (eT X Z W (.ite t a b)) := h.elim

/-! ### rows of arguments, displays -/
theorem sa_nil : PA X [] (eA X Z W .nil) := pa_imp pa_nil fun σ H Q ⟨w, s, hw, rm, rs, p⟩ => by
  subst hw
  rw [evs] at p
  exact p.ok rm .nil
theorem sa_cons {es : List Expr} {as : Es} (ha : PE X e (eE X Z W a)) (hr : PA X es (eA X Z W as)) (hs : starEach (e :: es) X.env = (false, eval e X.env) :: starEach es X.env) : PA X (e :: es) (eA X Z W (.cons a as)) :=
  pa_imp (pa_cons ha hr hs) fun σ H Q ⟨w, s, hw, rm, rs, p⟩ => by
    subst hw
    rw [evs] at p
    refine ⟨w, s, rfl, rm, rs, p.split fun d w1 v rm1 fr rv p1 => ?_⟩
    refine ⟨w1, s, rfl, rm1, rs.mono fr.wk, p1.split fun ds w2 vs rm2 fr2 rvs p2 => ?_⟩
    exact p2.ok rm2 (.cons (rv.mono fr2.wk) rvs)
def Es.len : Es → Nat
  | .nil => 0
  | .cons _ es => es.len + 1
theorem evs_len {s : Sl} : ∀ {as : Es} {m m' : Mem} {ds : List D}, evs Z.G Z.cl as s m = .ok ds m' → ds.length = as.len
  | .nil, m, m', ds, h => by
    rw [evs] at h
    cases h
    rfl
  | .cons a as, m, m', ds, h => by
    rw [evs] at h
    cases hr : ev Z.G Z.cl a s m with
    | err => rw [hr] at h; cases h
    | exc x m => rw [hr] at h; cases h
    | ok d m1 =>
      rw [hr] at h
      have h : (evs Z.G Z.cl as s m1).bind (fun ds m => .ok (d :: ds) m) = .ok ds m' := h
      cases hr2 : evs Z.G Z.cl as s m1 with
      | err => rw [hr2] at h; cases h
      | exc x m => rw [hr2] at h; cases h
      | ok es m2 =>
        rw [hr2] at h
        have h : R.ok (d :: es) m2 = .ok ds m' := h
        cases h
        rw [List.length_cons, evs_len hr2]
        rfl
theorem se_tup {es : List Expr} {as : Es} {k : Nat} (ha : PA X es (eA X Z W as)) (hl : as.len ≤ 1000) : PE X (.Tuple es k pos) (eE X Z W (.tup as)) :=
  pe_imp (pe_tup ha) fun σ H Q ⟨w, s, hw, rm, rs, p⟩ => by
    subst hw
    rw [ev] at p
    refine ⟨w, s, rfl, rm, rs, ?_⟩
    cases hr : evs Z.G Z.cl as s w.m with
    | err => rw [hr] at p; exact p
    | exc x m => rw [hr] at p; exact p
    | ok ds m =>
      rw [hr] at p
      have hlen := evs_len hr
      intro w1 vs hm rm1 fr hv
      have h2 := hv.length
      refine ⟨le_line (by show vs.length ≤ 1000000; omega), fun q hq => ?_⟩
      exact p (w1.put q (.tup vs)) (.ref q) hm (rm1.put hq) (fr.trans (Fr.put rm1 hq)) (Rv.newTup rm1 hq hv)
end
end LR

set_option Elab.async false
set_option linter.all false
set_option maxRecDepth 100000
set_option maxHeartbeats 4000000
namespace LR
open PySem PySem.Spec PyProof.Rows L2
section
variable {K : PySem.W.Frag} {cn : Cn} {w : Wd} {v : V} {d : D} {l : List D}
theorem RM.lst (rm : RM K cn w) {n : Nat} {a : Addr} (hM : w.M[n]? = some a) (hc : w.m[n]? = some (.lst l)) : ∃ xs, w.H a = some (.lst xs) ∧ Rvs K w xs l := rm.cell n _ a hc hM
theorem deref_cases (n : Nat) (m : Mem) : (∃ l, m[n]? = some (.lst l) ∧ (D.ref n).deref m = .lst l) ∨ (D.ref n).deref m = .ref n := by
  simp only [D.deref]
  split
  · rename_i l h; exact .inl ⟨l, h, rfl⟩
  · exact .inr rfl
theorem Rv.derefL (rm : RM K cn w) (r : Rv K w v d) (h : d.deref w.m = .lst l) : ∃ a xs, v = .ref a ∧ w.H a = some (.lst xs) ∧ Rvs K w xs l := by
  cases r with
  | lst f rs =>
    simp only [D.deref] at h
    cases h
    exact ⟨_, _, rfl, f.1, rs⟩
  | @ref a n hM =>
    rcases deref_cases n w.m with ⟨q, hc, e⟩ | e
    · rw [e] at h
      cases h
      obtain ⟨xs, h1, h2⟩ := rm.lst hM hc
      exact ⟨_, xs, rfl, h1, h2⟩
    · rw [e] at h; cases h
  | _ => simp only [D.deref] at h; cases h
theorem Rv.derefI (r : Rv K w v d) {i : Int} (h : d.deref w.m = .int i) : v = .int i := by
  cases r with
  | int j => simp only [D.deref] at h; cases h; rfl
  | @ref a n hM => rcases deref_cases n w.m with ⟨q, hc, e⟩ | e <;> (rw [e] at h; cases h)
  | _ => simp only [D.deref] at h; cases h
theorem Rv.derefS (r : Rv K w v d) {i : Str} (h : d.deref w.m = .str i) : v = .str i := by
  cases r with
  | str j => simp only [D.deref] at h; cases h; rfl
  | @ref a n hM => rcases deref_cases n w.m with ⟨q, hc, e⟩ | e <;> (rw [e] at h; cases h)
  | _ => simp only [D.deref] at h; cases h
theorem Rv.derefT (r : Rv K w v d) (h : d.deref w.m = .tup l) : ∃ a xs, v = .ref a ∧ FzT K w a xs ∧ Rvs K w xs l := by
  cases r with
  | tup f rs => simp only [D.deref] at h; cases h; exact ⟨_, _, rfl, f, rs⟩
  | @ref a n hM => rcases deref_cases n w.m with ⟨q, hc, e⟩ | e <;> (rw [e] at h; cases h)
  | _ => simp only [D.deref] at h; cases h
theorem seq_cases (n : Nat) (m : Mem) : (∃ l, m[n]? = some (.lst l) ∧ (D.ref n).seq m = some l) ∨ (D.ref n).seq m = none := by
  simp only [D.seq]
  split
  · rename_i l h; exact .inl ⟨l, h, rfl⟩
  · exact .inr rfl
/-- what is read as a row -/
theorem Rv.seq (rm : RM K cn w) (r : Rv K w v d) (h : d.seq w.m = some l) : ∃ a xs, v = .ref a ∧ (SqL K w.H a xs ∨ SqT K w.H a xs) ∧ Rvs K w xs l := by
  cases r with
  | tup f rs => simp only [D.seq] at h; cases h; exact ⟨_, _, rfl, .inr f.sq, rs⟩
  | lst f rs => simp only [D.seq] at h; cases h; exact ⟨_, _, rfl, .inl f.sq, rs⟩
  | scr f rs => simp only [D.seq] at h; cases h; exact ⟨_, _, rfl, .inl f.sq, rs⟩
  | @ref a n hM =>
    rcases seq_cases n w.m with ⟨q, hc, e⟩ | e
    · rw [e] at h
      cases h
      obtain ⟨xs, h1, h2⟩ := rm.lst hM hc
      exact ⟨_, xs, rfl, .inl (.inl (.inl h1)), h2⟩
    · rw [e] at h; cases h
  | _ => simp only [D.seq] at h; cases h
theorem Rv.frz (r : Rv K w v d) (h : d.frz = some l) : ∃ a xs, v = .ref a ∧ (FzL w a xs ∧ d = .lst l ∨ FzT K w a xs ∧ d = .tup l) ∧ Rvs K w xs l := by
  cases r with
  | tup f rs => simp only [D.frz] at h; cases h; exact ⟨_, _, rfl, .inr ⟨f, rfl⟩, rs⟩
  | lst f rs => simp only [D.frz] at h; cases h; exact ⟨_, _, rfl, .inl ⟨f, rfl⟩, rs⟩
  | _ => simp only [D.frz] at h; cases h
theorem Rv.same (r : Rv K w v d) {Q : VK} (rm : RM K cn w) (q : ∀ (w' : Wd) (v : V), w'.m = w.m → RM K cn w' → Fr w w' → Rv K w' v d → Q v w'.H) : Q v w.H := q w v rfl rm (Fr.refl w) r
def rAddAll (K : PySem.W.Frag) : R2 := fun x y H Q => rI0 (fun i j => .int (i + j)) x y H Q ∨ (∃ i j, x = .str i ∧ y = .str j ∧ i.length + j.length ≤ sizeLine ∧ Q (.str (i ++ j)) H) ∨ rCatA K x y H Q ∨ rCat x y H Q
theorem op_addAll {X : Cx} : OpR X (binaryOp .Add) (rAddAll X.K) := op_add.or (op_add_str.or (op_catA.or op_cat))
theorem ops_add : OpS K cn .add (rAddAll K) := by
  intro w x y dx dy d Q rm rx ry hd q
  have hd : addD (dx.deref w.m) (dy.deref w.m) = some d := hd
  unfold addD at hd
  split at hd
  · rename_i i j h1 h2
    cases hd
    refine .inl ⟨i, j, rx.derefI h1, ry.derefI h2, (Rv.int _).same rm q⟩
  · rename_i i j h1 h2
    split at hd
    · rename_i hz
      cases hd
      exact .inr (.inl ⟨i, j, rx.derefS h1, ry.derefS h2, le_line hz, (Rv.str _).same rm q⟩)
    · cases hd
  · rename_i i j h1 h2
    split at hd
    · rename_i hz
      cases hd
      obtain ⟨a, xs, rfl, fa, ra⟩ := rx.derefT h1
      obtain ⟨b, ys, rfl, fb, rb⟩ := ry.derefT h2
      refine .inr (.inr (.inl ⟨a, b, xs, ys, rfl, rfl, fa.sq, fb.sq, by rw [ra.length, rb.length]; exact le_line hz, fun e => ?_, fun e e2 => ?_, fun e e2 p hp => ?_⟩))
      · subst e
        cases ra
        exact (Rv.tup fb rb).same rm q
      · subst e2
        cases rb
        refine Rv.same (Rv.tup fa ?_) rm q
        rw [List.append_nil]
        exact ra
      · exact q (w.put p (.tup (xs ++ ys))) (.ref p) rfl (rm.put hp) (Fr.put rm hp) (Rv.newTup rm hp (ra.append rb))
    · cases hd
  · rename_i i j h1 h2
    split at hd
    · rename_i hz
      cases hd
      obtain ⟨a, xs, rfl, fa, ra⟩ := rx.derefL rm h1
      obtain ⟨b, ys, rfl, fb, rb⟩ := ry.derefL rm h2
      refine .inr (.inr (.inr ⟨a, b, xs, ys, rfl, rfl, fa, fb, by rw [ra.length, rb.length]; exact le_line hz, fun p hp => ?_⟩))
      exact q (w.put p (.lst (xs ++ ys))) (.ref p) rfl (rm.put hp) (Fr.put rm hp) (Rv.newLst rm hp (ra.append rb))
    · cases hd
  · cases hd
theorem ops_II {k : O2} {g : Int → Int → V} {gd : Int → Int → D} (hk : ∀ dx dy m d, sem2 k dx dy m = some d → ∃ i j, dx = .int i ∧ dy = .int j ∧ d = gd i j) (hg : ∀ w i j, Rv K w (g i j) (gd i j)) : OpS K cn k (rI0 g) := by
  intro w x y dx dy d Q rm rx ry hd q
  obtain ⟨i, j, rfl, rfl, rfl⟩ := hk _ _ _ _ hd
  cases rx
  cases ry
  exact ⟨i, j, rfl, rfl, (hg w i j).same rm q⟩
theorem sem_II {α : Type} {f : Int → Int → α} {dx dy : D} {d : α} (h : (match dx, dy with | .int i, .int j => some (f i j) | _, _ => none) = some d) : ∃ i j, dx = .int i ∧ dy = .int j ∧ d = f i j := by
  split at h
  · cases h; exact ⟨_, _, rfl, rfl, rfl⟩
  · cases h
theorem ops_sub : OpS K cn .sub (rI0 fun i j => .int (i - j)) := ops_II (gd := fun i j => .int (i - j)) (fun dx dy m d h => sem_II h) fun w i j => .int _
theorem ops_le : OpS K cn .le (rI0 fun i j => .bl (decide (i ≤ j))) := ops_II (gd := fun i j => .bl (decide (i ≤ j))) (fun dx dy m d h => sem_II h) fun w i j => .bl _
theorem ops_gt : OpS K cn .gt (rI0 fun i j => .bl (decide (j < i))) := ops_II (gd := fun i j => .bl (decide (j < i))) (fun dx dy m d h => sem_II h) fun w i j => .bl _
theorem ops_ge : OpS K cn .ge (rI0 fun i j => .bl (decide (j ≤ i))) := ops_II (gd := fun i j => .bl (decide (j ≤ i))) (fun dx dy m d h => sem_II h) fun w i j => .bl _
theorem sem_IC {α : Type} {f : Int → Int → α} {C : Int → Int → Prop} [∀ i j, Decidable (C i j)] {dx dy : D} {d : α} (h : (match dx, dy with | .int i, .int j => if C i j then some (f i j) else none | _, _ => none) = some d) : ∃ i j, dx = .int i ∧ dy = .int j ∧ C i j ∧ d = f i j := by
  split at h
  · split at h
    · cases h; exact ⟨_, _, rfl, rfl, by assumption, rfl⟩
    · cases h
  · cases h
theorem ops_IC {k : O2} {g : Int → Int → V} {gd : Int → Int → D} {C C' : Int → Int → Prop} (hk : ∀ dx dy m d, sem2 k dx dy m = some d → ∃ i j, dx = .int i ∧ dy = .int j ∧ C i j ∧ d = gd i j) (hC : ∀ i j, C i j → C' i j) (hg : ∀ w i j, Rv K w (g i j) (gd i j)) : OpS K cn k (rI C' g) := by
  intro w x y dx dy d Q rm rx ry hd q
  obtain ⟨i, j, rfl, rfl, c, rfl⟩ := hk _ _ _ _ hd
  cases rx
  cases ry
  exact ⟨i, j, rfl, rfl, hC _ _ c, (hg w i j).same rm q⟩
theorem ops_fdiv : OpS K cn .fdiv (rI CDivW fun i j => .int (i / j)) := ops_IC (gd := fun i j => .int (i / j)) (C := fun i j => 0 < j ∧ j.natAbs.log2 < 9000) (fun dx dy m d h => sem_IC (C := fun i j => 0 < j ∧ j.natAbs.log2 < 9000) h) (fun _ _ h => h) fun w i j => .int _
theorem ops_mod : OpS K cn .mod (rI (fun _ j => 0 < j) fun i j => .int (i % j)) := ops_IC (gd := fun i j => .int (i % j)) (C := fun i j => 0 < j) (fun dx dy m d h => sem_IC (C := fun i j => 0 < j) h) (fun _ _ h => h) fun w i j => .int _
theorem ops_pow : OpS K cn .pow (rI CPow fun i j => .int (i ^ j.toNat)) := ops_IC (gd := fun i j => .int (i ^ j.toNat)) (C := fun i j => 0 ≤ j ∧ j ≤ 1000000 ∧ i.natAbs < 2 ^ 64) (fun dx dy m d h => sem_IC (C := fun i j => 0 ≤ j ∧ j ≤ 1000000 ∧ i.natAbs < 2 ^ 64) h) (fun _ _ h => h) fun w i j => .int _
def rMulAll : R2 := fun x y H Q => rI CMul (fun i j => .int (i * j)) x y H Q ∨ rI CMulW (fun i j => .int (i * j)) x y H Q
theorem op_mulAll {X : Cx} : OpR X (binaryOp .Mult) rMulAll := op_mul.or op_mulW
theorem ops_mul : OpS K cn .mul rMulAll := by
  intro w x y dx dy d Q rm rx ry hd q
  obtain ⟨i, j, rfl, rfl, c, rfl⟩ := sem_IC (C := fun i j => mulOk i j = true) (f := fun i j => D.int (i * j)) hd
  cases rx
  cases ry
  have q' : Q (.int (i * j)) w.H := (Rv.int _).same rm q
  unfold mulOk at c
  simp only [Bool.or_eq_true, Bool.and_eq_true, decide_eq_true_eq] at c
  rcases c with (c | c) | c
  · exact .inl ⟨i, j, rfl, rfl, .inl c, q'⟩
  · exact .inl ⟨i, j, rfl, rfl, .inr c, q'⟩
  · exact .inr ⟨i, j, rfl, rfl, c, q'⟩
theorem shaped_lay {d : PyData} (h : SeqAt.shaped d = true) : d.canLay0 = true := SeqAt.canLay_of_shaped h
theorem Rv.derefP (rm : RM K cn w) (r : Rv K w v d) (h : SeqAt.shaped (d.deref w.m).py = true) : Dp K w.H v (d.deref w.m).py := by
  have hl := shaped_lay h
  cases r with
  | @ref a n hM =>
    rcases deref_cases n w.m with ⟨q, hc, e⟩ | e
    · rw [e] at hl ⊢
      obtain ⟨xs, h1, h2⟩ := rm.lst hM hc
      simp only [D.py, PyData.canLay0] at hl ⊢
      exact .lst (.inl (.inl h1)) (Rvs.dp (fun _ => trivial) h2 hl)
    · rw [e] at hl
      simp [D.py, PyData.canLay0] at hl
  | non => exact Rv.dp (fun _ => trivial) .non hl
  | bl b => exact Rv.dp (fun _ => trivial) (.bl b) hl
  | int b => exact Rv.dp (fun _ => trivial) (.int b) hl
  | str b => exact Rv.dp (fun _ => trivial) (.str b) hl
  | tup f rs => exact Rv.dp (fun _ => trivial) (.tup f rs) hl
  | lst f rs => exact Rv.dp (fun _ => trivial) (.lst f rs) hl
  | scr f rs => exact Rv.dp (fun _ => trivial) (.scr f rs) hl
theorem eqD_some {a b : D} {x : Bool} (h : eqD a b = some x) : SeqAt.shaped a.py = true ∧ SeqAt.shaped b.py = true ∧ x = PyData.eqv a.py b.py := by
  unfold eqD at h
  split at h
  · rename_i hc
    cases h
    simp only [Bool.and_eq_true] at hc
    exact ⟨hc.1, hc.2, rfl⟩
  · cases h
def rLtD (K : PySem.W.Frag) : R2 := fun x y H Q => ∃ d e, Dp K H x d ∧ Dp K H y e ∧ SeqAt.shaped d = true ∧ SeqAt.shaped e = true ∧ PySem.W.alike d e = true ∧ d ≠ .none ∧ Q (.bl (PySem.W.dataLt d e)) H
theorem shaped_depth {d : PyData} (h : SeqAt.shaped d = true) : d.depth ≤ 64 := by
  unfold SeqAt.shaped at h
  rw [Bool.and_eq_true] at h
  exact of_decide_eq_true h.2
theorem op_ltD {X : Cx} (hu : X.A.units + 64 < cLine) : OpR X (compareOp .Lt) (rLtD X.K) := by
  intro pins s σ H x y v u Q I rx ry h
  obtain ⟨d, e, hd, he, sd, se, al, nn, q⟩ := h
  obtain ⟨as, r1⟩ := Dp.reads I d x v hd rx
  obtain ⟨bs, r2⟩ := Dp.reads I e y u he ry
  have h1 := shaped_depth sd
  exact PySem.W.lt_data r1 r2 al nn (by omega) ⟨.bl _, H, I, rfl, q⟩
def rLtAll (K : PySem.W.Frag) : R2 := fun x y H Q => rI0 (fun i j => .bl (decide (i < j))) x y H Q ∨ rLtD K x y H Q
theorem op_ltAll {X : Cx} (hu : X.A.units + 64 < cLine) : OpR X (compareOp .Lt) (rLtAll X.K) := op_lt.or (op_ltD hu)
theorem deref_tup {l : List D} {m : Mem} : (D.tup l).deref m = .tup l := rfl
theorem isNon_py {d : D} (h : d.isNon = false) (hs : SeqAt.shaped d.py = true) : d.py ≠ .none := by
  cases d <;> simp [D.isNon, D.py] at h ⊢
theorem ltD_some {a b : D} {x : Bool} (h : ltD a b = some x) : SeqAt.shaped a.py = true ∧ SeqAt.shaped b.py = true ∧ PySem.W.alike a.py b.py = true ∧ a.isNon = false ∧ x = PySem.W.dataLt a.py b.py := by
  unfold ltD at h
  split at h
  · rename_i hc
    cases h
    simp only [Bool.and_eq_true, Bool.not_eq_true'] at hc
    exact ⟨hc.1.1.1, hc.1.1.2, hc.1.2, hc.2, rfl⟩
  · cases h
theorem ops_lt : OpS K cn .lt (rLtAll K) := by
  intro w x y dx dy d Q rm rx ry hd q
  simp only [sem2] at hd
  split at hd
  · cases hd
    cases rx
    cases ry
    exact .inl ⟨_, _, rfl, rfl, (Rv.bl _).same rm q⟩
  · obtain ⟨z, hz, rfl⟩ := Option.map_eq_some_iff.mp hd
    obtain ⟨h1, h2, h3, h4, rfl⟩ := ltD_some hz
    exact .inr ⟨_, _, rx.derefP rm h1, ry.derefP rm h2, h1, h2, h3, isNon_py h4 h1, (Rv.bl _).same rm q⟩
  · cases hd
theorem ops_eq : OpS K cn .eq (rEqD K) := by
  intro w x y dx dy d Q rm rx ry hd q
  have hd : (eqD (dx.deref w.m) (dy.deref w.m)).map D.bl = some d := hd
  obtain ⟨z, hz, rfl⟩ := Option.map_eq_some_iff.mp hd
  obtain ⟨h1, h2, rfl⟩ := eqD_some hz
  exact ⟨_, _, rx.derefP rm h1, ry.derefP rm h2, h1, h2, (Rv.bl _).same rm q⟩
theorem ops_ne : OpS K cn .ne (rNeD K) := by
  intro w x y dx dy d Q rm rx ry hd q
  have hd : (eqD (dx.deref w.m) (dy.deref w.m)).map (fun x => D.bl (!x)) = some d := hd
  obtain ⟨z, hz, rfl⟩ := Option.map_eq_some_iff.mp hd
  obtain ⟨h1, h2, rfl⟩ := eqD_some hz
  exact ⟨_, _, rx.derefP rm h1, ry.derefP rm h2, h1, h2, (Rv.bl _).same rm q⟩
theorem inD_some {a : D} {l : List D} {x : Bool} (h : inD a l = some x) : (a.flat = true ∧ l.all D.flat = true ∧ x = l.any fun y => eqF y a) ∨
    (SeqAt.shaped a.py = true ∧ SeqAt.shaped (.list (pys l)) = true ∧ a.py.depth ≤ 30 ∧ x = (pys l).any fun z => PyData.eqv z a.py) := by
  unfold inD at h
  split at h
  · rename_i hc
    cases h
    simp only [Bool.and_eq_true] at hc
    exact .inl ⟨hc.1, hc.2, rfl⟩
  · split at h
    · rename_i hc
      cases h
      simp only [Bool.and_eq_true, decide_eq_true_eq] at hc
      exact .inr ⟨hc.1.1, hc.1.2, hc.2, rfl⟩
    · cases h
def rInDp (K : PySem.W.Frag) (ng : Bool) : R2 := fun x y H Q => ∃ d ds, Dp K H x d ∧ (Dp K H y (.list ds) ∨ Dp K H y (.tuple ds)) ∧ SeqAt.shaped d = true ∧ SeqAt.shaped (.list ds) = true ∧ d.depth ≤ 30 ∧ Q (.bl (if ng then !(ds.any fun z => PyData.eqv z d) else (ds.any fun z => PyData.eqv z d))) H
theorem lay_list {ds : List PyData} (h : SeqAt.shaped (.list ds) = true) : PyData.canLayAll0 ds = true := by
  have := SeqAt.canLay_of_shaped h
  simpa [PyData.canLay0] using this
theorem op_inDp {X : Cx} (hu : X.A.units + 64 < cLine) : OpR X (compareOp .In) (rInDp X.K false) := by
  intro pins s σ H x y v u Q I rx ry h
  obtain ⟨d, ds, hd, he, sd, se, hdp, q⟩ := h
  obtain ⟨as, r1⟩ := Dp.reads I d x v hd rx
  rcases he with he | he
  · obtain ⟨bs, r2⟩ := Dp.reads I (.list ds) y u he ry
    exact SeqAt.in_list_reads r2 r1 (lay_list se) (SeqAt.canLay_of_shaped sd) (by omega) ⟨.bl _, H, I, rfl, q⟩
  · obtain ⟨bs, r2⟩ := Dp.reads I (.tuple ds) y u he ry
    exact SeqAt.in_tuple_reads r2 r1 (lay_list se) (SeqAt.canLay_of_shaped sd) (by omega) ⟨.bl _, H, I, rfl, q⟩
theorem op_notInDp {X : Cx} (hu : X.A.units + 64 < cLine) : OpR X (compareOp .NotIn) (rInDp X.K true) := by
  intro pins s σ H x y v u Q I rx ry h
  obtain ⟨d, ds, hd, he, sd, se, hdp, q⟩ := h
  obtain ⟨as, r1⟩ := Dp.reads I d x v hd rx
  rcases he with he | he
  · obtain ⟨bs, r2⟩ := Dp.reads I (.list ds) y u he ry
    exact SeqAt.notIn_list_reads r2 r1 (lay_list se) (SeqAt.canLay_of_shaped sd) (by omega) ⟨.bl _, H, I, rfl, q⟩
  · obtain ⟨bs, r2⟩ := Dp.reads I (.tuple ds) y u he ry
    exact SeqAt.notIn_tuple_reads r2 r1 (lay_list se) (SeqAt.canLay_of_shaped sd) (by omega) ⟨.bl _, H, I, rfl, q⟩
def rInAll (K : PySem.W.Frag) (ng : Bool) : R2 := fun x y H Q => rIn K ng x y H Q ∨ rInDp K ng x y H Q
theorem op_inAll {X : Cx} (hu : X.A.units + 64 < cLine) : OpR X (compareOp .In) (rInAll X.K false) := op_in_seq.or (op_inDp hu)
theorem op_notInAll {X : Cx} (hu : X.A.units + 64 < cLine) : OpR X (compareOp .NotIn) (rInAll X.K true) := op_notIn_seq.or (op_notInDp hu)
theorem Rv.seqP (rm : RM K cn w) (r : Rv K w v d) (h : d.seq w.m = some l) (c : PyData.canLayAll0 (pys l) = true) : Dp K w.H v (.list (pys l)) ∨ Dp K w.H v (.tuple (pys l)) := by
  cases r with
  | tup f rs => simp only [D.seq] at h; cases h; exact .inr (.tup f.sq (Rvs.dp (fun _ => trivial) rs c))
  | lst f rs => simp only [D.seq] at h; cases h; exact .inl (.lst f.sq (Rvs.dp (fun _ => trivial) rs c))
  | scr f rs => simp only [D.seq] at h; cases h; exact .inl (.lst f.sq (Rvs.dp (fun _ => trivial) rs c))
  | @ref a n hM =>
    rcases seq_cases n w.m with ⟨q, hc, e⟩ | e
    · rw [e] at h
      cases h
      obtain ⟨xs, h1, h2⟩ := rm.lst hM hc
      exact .inl (.lst (.inl (.inl h1)) (Rvs.dp (fun _ => trivial) h2 c))
    · rw [e] at h; cases h
  | _ => simp only [D.seq] at h; cases h
theorem ops_inB (ng : Bool) {k : O2} (hk : ∀ dx dy m, sem2 k dx dy m = (dy.seq m).bind fun l => (inD dx l).map fun x => .bl (if ng then !x else x)) : OpS K cn k (rInAll K ng) := by
  intro w x y dx dy d Q rm rx ry hd q
  rw [hk] at hd
  obtain ⟨l, hl, hd⟩ := Option.bind_eq_some_iff.mp hd
  obtain ⟨z, hz, rfl⟩ := Option.map_eq_some_iff.mp hd
  rcases inD_some hz with ⟨h1, h2, rfl⟩ | ⟨h1, h2, h3, rfl⟩
  · obtain ⟨a, xs, rfl, sq, rs⟩ := ry.seq rm hl
    refine .inl ⟨a, xs, rfl, sq, rx.flat h1, rs.flats h2, ?_⟩
    rw [Rvs.inF rx h1 rs h2]
    cases ng <;> exact (Rv.bl _).same rm q
  · have hlay := SeqAt.canLay_of_shaped h1
    exact .inr ⟨dx.py, pys l, Rv.dp (fun _ => trivial) rx hlay, ry.seqP rm hl (lay_list h2), h1, h2, h3, (Rv.bl _).same rm q⟩
theorem ops_in : OpS K cn .inn (rInAll K false) := ops_inB false fun dx dy m => by
  show (dy.seq m).bind (fun l => (inD dx l).map D.bl) = _
  simp
theorem ops_nin : OpS K cn .nin (rInAll K true) := ops_inB true fun dx dy m => by
  show (dy.seq m).bind (fun l => (inD dx l).map fun x => D.bl (!x)) = _
  simp
def rIsAll : R2 := fun x y H Q => (y = .non ∧ Q (.bl (decide (x = .non))) H) ∨ rIsB x y H Q
def rIsnAll : R2 := fun x y H Q => (y = .non ∧ Q (.bl (!decide (x = .non))) H) ∨ rNotB x y H Q
theorem op_isAll {X : Cx} : OpR X (compareOp .Is) rIsAll := op_isN.or op_isBl
theorem op_isnAll {X : Cx} : OpR X (compareOp .IsNot) rIsnAll := op_notN.or op_notBl
theorem Rv.isNon (r : Rv K w v d) : decide (v = .non) = d.isNon := by
  cases r <;> rfl
theorem ops_is : OpS K cn .is rIsAll := by
  intro w x y dx dy d Q rm rx ry hd q
  simp only [sem2] at hd
  split at hd
  · cases hd
    cases ry
    refine .inl ⟨rfl, ?_⟩
    rw [rx.isNon]
    exact (Rv.bl _).same rm q
  · cases hd
    cases rx
    cases ry
    exact .inr ⟨_, _, rfl, rfl, (Rv.bl _).same rm q⟩
  · cases hd
theorem ops_isn : OpS K cn .isn rIsnAll := by
  intro w x y dx dy d Q rm rx ry hd q
  simp only [sem2] at hd
  split at hd
  · cases hd
    cases ry
    refine .inl ⟨rfl, ?_⟩
    rw [rx.isNon]
    exact (Rv.bl _).same rm q
  · cases hd
    cases rx
    cases ry
    exact .inr ⟨_, _, rfl, rfl, (Rv.bl _).same rm q⟩
  · cases hd
end
end LR

set_option Elab.async false
set_option linter.all false
set_option maxRecDepth 100000
set_option maxHeartbeats 4000000
namespace LR
open PySem PySem.Spec PyProof.Rows L2
/-! ### dicts of nested keys, in the evaluator's world -/
mutual
theorem Rv.kat {K : PySem.W.Frag} {w : Wd} : ∀ {v : V} {d : D} {k : NK}, Rv K w v d → nkD d = some k → KAt K w.H k v
  | _, _, _, .non, h => by simp only [nkD] at h; cases h; exact .non
  | _, _, _, .bl b, h => by simp only [nkD] at h; cases h; exact .bl b rfl
  | _, _, _, .int i, h => by simp only [nkD] at h; cases h; exact .int i
  | _, _, _, .str s, h => by simp only [nkD] at h; cases h; exact .str s
  | _, _, _, .tup f r, h => by
    simp only [nkD] at h
    obtain ⟨ks, hk, rfl⟩ := Option.map_eq_some_iff.mp h
    exact .tup f.sq (Rvs.kats r hk)
  | _, _, _, .lst f r, h => by simp [nkD] at h
  | _, _, _, .scr f r, h => by simp [nkD] at h
  | _, _, _, .ref hM, h => by simp [nkD] at h
theorem Rvs.kats {K : PySem.W.Frag} {w : Wd} : ∀ {vs : List V} {ds : List D} {ks : List NK}, Rvs K w vs ds → nkDs ds = some ks → KAts K w.H ks vs
  | _, _, _, .nil, h => by simp only [nkDs] at h; cases h; exact .nil
  | _, _, _, .cons r t, h => by
    simp only [nkDs] at h
    obtain ⟨k, hk, h⟩ := Option.bind_eq_some_iff.mp h
    obtain ⟨ks, hks, rfl⟩ := Option.map_eq_some_iff.mp h
    exact .cons (Rv.kat r hk) (Rvs.kats t hks)
end
theorem nkKey_some {d : D} {k : NK} (h : nkKey d = some k) : ∃ l, d = .tup l ∧ nkD (.tup l) = some k ∧ k.depth ≤ 8 := by
  unfold nkKey at h
  split at h
  · rename_i l
    obtain ⟨k', hk, h⟩ := Option.bind_eq_some_iff.mp h
    split at h
    · rename_i h8
      cases h
      exact ⟨l, rfl, hk, h8⟩
    · cases h
  · cases h
theorem dicOf_some {m : Mem} {d : D} {kvs : List (NK × D)} (h : dicOf m d = some kvs) : ∃ n, d = .ref n ∧ m[n]? = some (.dic kvs) := by
  unfold dicOf at h
  split at h
  · rename_i n
    split at h
    · rename_i q hc
      cases h
      exact ⟨n, rfl, hc⟩
    · cases h
  · cases h
theorem dic_val {K : PySem.W.Frag} {w : Wd} (k : NK) : ∀ {es : List NE} {kvs : List (NK × D)}, Paired (DicE K w) es kvs → (valN es k = none ∧ valD kvs k = none) ∨ ∃ v d, valN es k = some v ∧ valD kvs k = some d ∧ Rv K w v d
  | _, _, .nil => .inl ⟨rfl, rfl⟩
  | e :: es, kv :: kvs, .cons r t => by
    have ih := dic_val k t
    unfold valN valD at ih ⊢
    rw [List.find?_cons, List.find?_cons, ← r.1]
    by_cases h : e.1 = k
    · rw [decide_eq_true h]
      exact .inr ⟨_, _, rfl, rfl, r.2.2.2⟩
    · rw [decide_eq_false h]
      exact ih
section
variable {X : Cx} {cn : Cn} {w : Wd}
theorem RM.dic {K : PySem.W.Frag} {kvs : List (NK × D)} (rm : RM K cn w) {n : Nat} {a : Addr} (hM : w.M[n]? = some a) (hc : w.m[n]? = some (.dic kvs)) : ∃ es : List NE, w.H a = some (NdO cn.P cn.w a es) ∧ Paired (DicE K w) es kvs := rm.cell n _ a hc hM
theorem dic_at {kvs : List (NK × D)} (hP : cn.P = X.prog) (hw : cn.w = X.w) (rm : RM X.K cn w) {n : Nat} {a : Addr} (hM : w.M[n]? = some a) (hc : w.m[n]? = some (.dic kvs)) : ∃ es : List NE, NdAt X w.H a es ∧ Paired (DicE X.K w) es kvs := by
  obtain ⟨es, h1, h2⟩ := rm.dic hM hc
  rw [hP, hw] at h1
  refine ⟨es, ⟨h1, ?_⟩, h2⟩
  have all : ∀ {l : List NE} {q : List (NK × D)}, Paired (DicE X.K w) l q → ∀ e ∈ l, KAt X.K w.H e.1 (.ref e.2.1) ∧ e.1.depth ≤ 8 := by
    intro l q r
    induction r with
    | nil => intro e he; exact nomatch he
    | @cons p q ps qs hq t ih =>
      intro e he
      rcases List.mem_cons.mp he with rfl | he
      · obtain ⟨_, h8, ⟨ds, r1, r2⟩, _⟩ := hq
        exact ⟨Rv.kat r1 r2, h8⟩
      · exact ih e he
  exact all h2
/-- what the evaluator's dict says of a key -/
theorem dic_get {kvs : List (NK × D)} {x y : V} {dx dy : D} {k : NK} (hP : cn.P = X.prog) (hw : cn.w = X.w) (rm : RM X.K cn w) (rx : Rv X.K w x dx) (ry : Rv X.K w y dy) (hx : dicOf w.m dx = some kvs) (hy : nkKey dy = some k) :
    ∃ a o, x = .ref a ∧ NGet X w.H a y o ∧ ((o = none ∧ valD kvs k = none) ∨ ∃ v d, o = some v ∧ valD kvs k = some d ∧ Rv X.K w v d) := by
  obtain ⟨n, rfl, hc⟩ := dicOf_some hx
  obtain ⟨l, rfl, hk, h8⟩ := nkKey_some hy
  cases rx with
  | @ref a _ hM =>
    obtain ⟨es, N, r⟩ := dic_at hP hw rm hM hc
    cases ry with
    | @tup b xs _ f rs =>
      exact ⟨a, valN es k, rfl, ⟨es, k, b, N, rfl, Rv.kat (.tup f rs) hk, h8, rfl⟩, (dic_val k r).imp (fun h => h) fun ⟨v, d, h1, h2, h3⟩ => ⟨v, d, h1, h2, h3⟩⟩
theorem ops_dinn (hP : cn.P = X.prog) (hw : cn.w = X.w) : OpS X.K cn .dinn (rInN X false) := by
  intro w x y dx dy d Q rm rx ry hd q
  have hd : ((dicOf w.m dy).bind fun kvs => (nkKey dx).map fun k => D.bl (valD kvs k).isSome) = some d := hd
  obtain ⟨kvs, h1, hd⟩ := Option.bind_eq_some_iff.mp hd
  obtain ⟨k, h2, rfl⟩ := Option.map_eq_some_iff.mp hd
  obtain ⟨a, o, rfl, g, h3⟩ := dic_get hP hw rm ry rx h1 h2
  refine ⟨a, o, rfl, g, ?_⟩
  rcases h3 with ⟨rfl, h4⟩ | ⟨v, d, rfl, h4, _⟩ <;> rw [h4] at q <;> exact (Rv.bl _).same rm q
theorem ops_dnin (hP : cn.P = X.prog) (hw : cn.w = X.w) : OpS X.K cn .dnin (rInN X true) := by
  intro w x y dx dy d Q rm rx ry hd q
  have hd : ((dicOf w.m dy).bind fun kvs => (nkKey dx).map fun k => D.bl (!(valD kvs k).isSome)) = some d := hd
  obtain ⟨kvs, h1, hd⟩ := Option.bind_eq_some_iff.mp hd
  obtain ⟨k, h2, rfl⟩ := Option.map_eq_some_iff.mp hd
  obtain ⟨a, o, rfl, g, h3⟩ := dic_get hP hw rm ry rx h1 h2
  refine ⟨a, o, rfl, g, ?_⟩
  rcases h3 with ⟨rfl, h4⟩ | ⟨v, d, rfl, h4, _⟩ <;> rw [h4] at q <;> exact (Rv.bl _).same rm q
end
end LR

set_option Elab.async false
set_option linter.all false
set_option maxRecDepth 100000
set_option maxHeartbeats 4000000
namespace LR
open PySem PySem.Spec PyProof.Rows L2
section
variable {X : Cx} {Z : Ec} {W : WX} {e e1 e2 e3 : Expr} {es : List Expr} {a b c : E} {as : Es} {n : N} {pos pos2 : Pos}
/-! ### items, slices -/
theorem Rvs.at {K : PySem.W.Frag} {w : Wd} {xs : List V} {l : List D} {i : Int} {d : D} (r : Rvs K w xs l) (h : atI l i = some d) : ∃ v, atI xs i = some v ∧ Rv K w v d := by
  unfold atI at h ⊢
  obtain ⟨j, hj, hd⟩ := Option.bind_eq_some_iff.mp h
  obtain ⟨v, h1, h2⟩ := r.get hd
  exact ⟨v, by rw [r.length, hj]; exact h1, h2⟩
theorem se_idx (ha : PE X e1 (eE X Z W a)) (hb : PE X e2 (eE X Z W b)) (hp : PlainIx e2) : PE X (.Subscript e1 e2 pos) (eE X Z W (.idx a b)) :=
  pe_imp (pe_ix (ix_list.or ix_tup) ha hb hp) fun σ H Q ⟨w, s, hw, rm, rs, p⟩ => by
    subst hw
    rw [ev] at p
    refine ⟨w, s, rfl, rm, rs, p.split fun dx w1 x rm1 fr1 rx p1 => ?_⟩
    refine ⟨w1, s, rfl, rm1, rs.mono fr1.wk, p1.split fun dy w2 y rm2 fr2 ry p2 => ?_⟩
    obtain ⟨d, hd, q⟩ := p2.opt
    unfold semIx at hd
    split at hd
    · rename_i i
      cases ry
      obtain ⟨l, hl, hd⟩ := Option.bind_eq_some_iff.mp hd
      obtain ⟨p, xs, rfl, sq, rvs⟩ := (rx.mono fr2.wk).seq rm2 hl
      obtain ⟨v, h1, h2⟩ := rvs.at hd
      have q' : Q v w2.H := h2.same rm2 q
      rcases sq with sq | sq
      · exact .inl ⟨p, xs, i, v, rfl, rfl, sq, h1, q'⟩
      · exact .inr ⟨p, xs, i, v, rfl, rfl, sq, h1, q'⟩
    · cases hd
theorem so_none : PO X none (eO X Z W .nop) := po_imp po_none fun σ H Q ⟨w, s, hw, rm, rs, p⟩ => by
  subst hw
  exact p.ok rm rfl
theorem so_some (ha : PE X e (eE X Z W a)) (hn : a.isNop = false) : PO X (some e) (eO X Z W a) := po_imp (po_some ha) fun σ H Q ⟨w, s, hw, rm, rs, p⟩ => by
  subst hw
  rw [hn] at p
  refine ⟨w, s, rfl, rm, rs, Post.split (f := fun d m => opt m (semPart d)) p fun d w1 v rm1 fr rv p1 => ?_⟩
  obtain ⟨o, ho, q⟩ := p1.opt
  cases rv with
  | int i =>
    cases ho
    exact ⟨i, rfl, q w1 (some i) rfl rm1 (Fr.refl w1) rfl⟩
  | _ => cases ho
theorem Rvs.cut {K : PySem.W.Frag} {w : Wd} {xs : List V} {l : List D} (r : Rvs K w xs l) (lo hi : Option Int) : Rvs K w (cutV xs lo hi) (cutD l lo hi) := by
  unfold cutV cutD
  rw [r.length]
  exact (r.drop _).take _
theorem cut_whole {α : Type} {l : List α} {lo hi : Option Int} (h : HT.sIx l.length 0 lo = 0 ∧ HT.sIx l.length l.length hi = l.length) : (l.drop (HT.sIx l.length 0 lo)).take (HT.sIx l.length l.length hi - HT.sIx l.length 0 lo) = l := by
  rw [h.1, h.2]
  simp
theorem se_sl {lo hi : Option Expr} {el eh : E} (ha : PE X e (eE X Z W a)) (hl : PO X lo (eO X Z W el)) (hh : PO X hi (eO X Z W eh)) : PE X (.Subscript e (.Slice lo hi none pos2) pos) (eE X Z W (.sl a el eh)) :=
  pe_imp (pe_slice (sl_tupA.or sl_str) ha hl hh) fun σ H Q ⟨w, s, hw, rm, rs, p⟩ => by
    subst hw
    rw [ev] at p
    refine ⟨w, s, rfl, rm, rs, p.split fun dx w1 x rm1 fr1 rx p1 => ?_⟩
    refine ⟨w1, s, rfl, rm1, rs.mono fr1.wk, p1.split fun l w2 l' rm2 fr2 rl p2 => ?_⟩
    refine ⟨w2, s, rfl, rm2, (rs.mono fr1.wk).mono fr2.wk, p2.split fun h w3 h' rm3 fr3 rh p3 => ?_⟩
    have rl : l' = l := rl
    have rh : h' = h := rh
    subst rl rh
    obtain ⟨d, hd, q⟩ := p3.opt
    unfold semSl at hd
    split at hd
    · cases hd
      cases (rx.mono fr2.wk).mono fr3.wk with
      | @tup a xs _ f rvs =>
        rename_i ds
        refine .inl ⟨a, xs, rfl, f.sq, fun hc => ?_, fun hc p hp => ?_⟩
        · have e : cutD ds l' h' = ds := by unfold cutD; rw [rvs.length] at hc; exact cut_whole hc
          rw [e] at q
          exact (Rv.tup f rvs).same rm3 q
        · exact q (w3.put p (.tup (cutV xs l' h'))) (.ref p) rfl (rm3.put hp) (Fr.put rm3 hp) (Rv.newTup rm3 hp (rvs.cut l' h'))
    · rename_i z
      split at hd
      · rename_i hz
        cases hd
        cases rx with
        | str => exact .inr ⟨z, rfl, le_line hz, (Rv.str _).same rm3 q⟩
      · cases hd
    · cases hd
/-! ### calls -/
def spC (K : PySem.W.Frag) (cn : Cn) (mg : Str → Option Value) (f : List D → Mem → R D) (k : Nat) : Sp := fun vs H Q E => ∃ (w : Wd) (ds : List D), w.H = H ∧ RM K cn w ∧ Rvs K w vs ds ∧ vs.length = k ∧ Post K cn mg (Rv K) Q E w (f ds w.m)
theorem se_call {f : Str} {p : Pos} {ad : Addr} {fd : FuncData} {ps : List Str} {k lv : Nat} (F : FnOk X.prog X.w X.K X.mg X.base (L2N.CX X.prog X.w) lv ad fd ps (spC X.K Z.cn X.mg (Z.cl f) k)) (hr : Room lv X.A) (hg : Gl X f) (hm : X.mg f = some (.ref ad))
    (hk : PySem.W.keepIn X.K (.ref ad) = true) (hb : Binds X.K fd ps []) (tk : L2N.Takes X W) (ha : PA X (e :: es) (eA X Z W as)) (hdb : (f == ("__debug__" : Str)) = false) (he : starEach (e :: es) X.env = (false, eval e X.env) :: starEach es X.env)
    (hpl : (backTo pos (starEach es X.env)).any (·.1) = false) (hl : as.len = k) : PE X (.Call (.Name f p) (e :: es) [] pos) (eE X Z W (.call f as)) :=
  pe_imp (pe_callS (E := WE W) F hr hg hm hk hb (fun σ => L2N.passAt tk σ) ha hdb he hpl) fun σ H Q ⟨w, s, hw, rm, rs, p⟩ => by
    subst hw
    rw [ev] at p
    refine ⟨w, s, rfl, rm, rs, ?_⟩
    cases hr : evs Z.G Z.cl as s w.m with
    | err => rw [hr] at p; exact p
    | exc x m => rw [hr] at p; exact p
    | ok ds m =>
      rw [hr] at p
      intro w1 vs hm rm1 fr hv
      have p2 : Post X.K Z.cn X.mg (Rv X.K) Q (WE W σ) w (Z.cl f ds m) := p
      rw [← hm] at p2
      exact ⟨w1, ds, rfl, rm1, hv, by rw [hv.length, evs_len hr, hl], p2.later fr⟩
/-! ### built-ins -/
def BiS (K : PySem.W.Frag) (cn : Cn) (k : Bi) (r : List V → Hp → VK → Prop) : Prop := ∀ (w : Wd) (xs : List V) (ds : List D) (d : D) (Q : VK), RM K cn w → Rvs K w xs ds → semBi k ds w.m = some d →
  (∀ (w' : Wd) (v : V), w'.m = w.m → RM K cn w' → Fr w w' → Rv K w' v d → Q v w'.H) → r xs w.H Q
theorem bi_core {k : Bi} {r : List V → Hp → VK → Prop} (bs : BiS X.K Z.cn k r) {σ : L2.St} {H : Hp} {Q : VK} (h : eE X Z W (.bi k as) σ H Q) : tCB r (eA X Z W as) σ H Q := by
  obtain ⟨w, s, hw, rm, rs, p⟩ := h
  subst hw
  rw [ev] at p
  refine ⟨w, s, rfl, rm, rs, p.split fun ds w1 vs rm1 fr1 rvs p1 => ?_⟩
  obtain ⟨d, hd, q⟩ := p1.opt
  exact bs w1 vs ds d Q rm1 rvs hd q
theorem se_biB {k : Bi} {r : List V → Hp → VK → Prop} {x : Str} {id : String} {p : Pos} (hc : CallR X (.builtin id) r) (bs : BiS X.K Z.cn k r) (hg : Gl X x) (hm : X.mg x = none) (hv : bootBuiltins x = some (.builtin id)) (ha : PA X (e :: es) (eA X Z W as)) (hn : x ≠ "__name__") (hdb : (x == ("__debug__" : Str)) = false)
    (he : starEach (e :: es) X.env = (false, eval e X.env) :: starEach es X.env) (hpl : (backTo pos (starEach es X.env)).any (·.1) = false) : PE X (.Call (.Name x p) (e :: es) [] pos) (eE X Z W (.bi k as)) :=
  pe_imp (pe_callB hc hg hm hv ha hn hdb he hpl) fun σ H Q h => bi_core bs h
theorem se_biT {k : Bi} {r : List V → Hp → VK → Prop} {x : Str} {id : String} {p : Pos} (hc : CallR X (.type id) r) (bs : BiS X.K Z.cn k r) (hg : Gl X x) (hm : X.mg x = none) (hv : bootBuiltins x = some (.type id)) (ha : PA X (e :: es) (eA X Z W as)) (hn : x ≠ "__name__") (hdb : (x == ("__debug__" : Str)) = false)
    (he : starEach (e :: es) X.env = (false, eval e X.env) :: starEach es X.env) (hpl : (backTo pos (starEach es X.env)).any (·.1) = false) : PE X (.Call (.Name x p) (e :: es) [] pos) (eE X Z W (.bi k as)) :=
  pe_imp (pe_callTy hc hg hm hv ha hn hdb he hpl) fun σ H Q h => bi_core bs h
variable {K : PySem.W.Frag} {cn : Cn}
theorem Rvs.one {w : Wd} {xs : List V} {d : D} (r : Rvs K w xs [d]) : ∃ v, xs = [v] ∧ Rv K w v d := by
  cases r with
  | cons r t => cases t; exact ⟨_, rfl, r⟩
theorem Rvs.two {w : Wd} {xs : List V} {d d' : D} (r : Rvs K w xs [d, d']) : ∃ v v', xs = [v, v'] ∧ Rv K w v d ∧ Rv K w v' d' := by
  cases r with
  | cons r t =>
    obtain ⟨v', rfl, r'⟩ := t.one
    exact ⟨_, _, rfl, r, r'⟩
theorem ints_map : ∀ {l : List D} {ns : List Int}, toInts l = some ns → l = ns.map .int
  | [], ns, h => by simp only [toInts] at h; cases h; rfl
  | .int i :: l, ns, h => by
    simp only [toInts] at h
    obtain ⟨ms, h1, rfl⟩ := Option.map_eq_some_iff.mp h
    rw [ints_map h1]
    rfl
  | .non :: l, ns, h => by simp [toInts] at h
  | .bl _ :: l, ns, h => by simp [toInts] at h
  | .str _ :: l, ns, h => by simp [toInts] at h
  | .tup _ :: l, ns, h => by simp [toInts] at h
  | .lst _ :: l, ns, h => by simp [toInts] at h
  | .scr _ :: l, ns, h => by simp [toInts] at h
  | .ref _ :: l, ns, h => by simp [toInts] at h
theorem bls_map : ∀ {l : List D} {ns : List Bool}, toBls l = some ns → l = ns.map .bl
  | [], ns, h => by simp only [toBls] at h; cases h; rfl
  | .bl i :: l, ns, h => by
    simp only [toBls] at h
    obtain ⟨ms, h1, rfl⟩ := Option.map_eq_some_iff.mp h
    rw [bls_map h1]
    rfl
  | .non :: l, ns, h => by simp [toBls] at h
  | .int _ :: l, ns, h => by simp [toBls] at h
  | .str _ :: l, ns, h => by simp [toBls] at h
  | .tup _ :: l, ns, h => by simp [toBls] at h
  | .lst _ :: l, ns, h => by simp [toBls] at h
  | .scr _ :: l, ns, h => by simp [toBls] at h
  | .ref _ :: l, ns, h => by simp [toBls] at h
theorem bis_len : BiS K cn .len (fun xs H Q => ∃ p ys, xs = [.ref p] ∧ (SqL K H p ys ∨ SqT K H p ys) ∧ Q (.int ys.length) H) := by
  intro w xs ds d Q rm r hd q
  simp only [semBi, bLen] at hd
  split at hd
  · obtain ⟨l, hl, rfl⟩ := Option.map_eq_some_iff.mp hd
    obtain ⟨v, rfl, rv⟩ := r.one
    obtain ⟨p, ys, rfl, sq, rvs⟩ := rv.seq rm hl
    refine ⟨p, ys, rfl, sq, ?_⟩
    rw [rvs.length]
    exact (Rv.int _).same rm q
  · cases hd
theorem bis_abs : BiS K cn .abs (fun xs H Q => ∃ i, xs = [.int i] ∧ Q (.int (if i < 0 then -i else i)) H) := by
  intro w xs ds d Q rm r hd q
  simp only [semBi, bAbs] at hd
  split at hd
  · cases hd
    obtain ⟨v, rfl, rv⟩ := r.one
    cases rv
    exact ⟨_, rfl, (Rv.int _).same rm q⟩
  · cases hd
theorem bis_int : BiS K cn .int (fun xs H Q => (∃ i, xs = [.int i] ∧ Q (.int i) H) ∨ ∃ k, xs = [.bl k] ∧ Q (.int (if k then 1 else 0)) H) := by
  intro w xs ds d Q rm r hd q
  simp only [semBi, bInt] at hd
  split at hd
  · cases hd
    obtain ⟨v, rfl, rv⟩ := r.one
    cases rv
    exact .inl ⟨_, rfl, (Rv.int _).same rm q⟩
  · cases hd
theorem bis_bool : BiS K cn .bool (fun xs H Q => (∃ i, xs = [.int i] ∧ Q (.bl (i != 0)) H) ∨ ∃ k, xs = [.bl k] ∧ Q (.bl k) H) := by
  intro w xs ds d Q rm r hd q
  simp only [semBi, bBool] at hd
  split at hd
  · cases hd
    obtain ⟨v, rfl, rv⟩ := r.one
    cases rv
    exact .inr ⟨_, rfl, (Rv.bl _).same rm q⟩
  · cases hd
theorem bis_all : BiS K cn .all (rAll K) := by
  intro w xs ds d Q rm r hd q
  simp only [semBi, bAll] at hd
  split at hd
  · obtain ⟨bs, hb, rfl⟩ := Option.map_eq_some_iff.mp hd
    obtain ⟨v, rfl, rv⟩ := r.one
    cases rv with
    | lst f rvs =>
      rw [bls_map hb] at rvs
      have e := rvs.bls
      subst e
      exact ⟨_, bs, rfl, f.sq, (Rv.bl _).same rm q⟩
  · cases hd
theorem bis_any : BiS K cn .any (rAny K) := by
  intro w xs ds d Q rm r hd q
  simp only [semBi, bAny] at hd
  split at hd
  · obtain ⟨bs, hb, rfl⟩ := Option.map_eq_some_iff.mp hd
    obtain ⟨v, rfl, rv⟩ := r.one
    cases rv with
    | lst f rvs =>
      rw [bls_map hb] at rvs
      have e := rvs.bls
      subst e
      exact ⟨_, bs, rfl, f.sq, (Rv.bl _).same rm q⟩
  · cases hd
theorem bis_tuple : BiS K cn .tuple (fun xs H Q => ∃ p ys, xs = [.ref p] ∧ ((SqL K H p ys ∧ ∀ l, H l = none → Q (.ref l) (upd H l (.tup ys))) ∨ (SqT K H p ys ∧ Q (.ref p) H))) := by
  intro w xs ds d Q rm r hd q
  simp only [semBi, bTuple] at hd
  split at hd
  · obtain ⟨l, hl, rfl⟩ := Option.map_eq_some_iff.mp hd
    obtain ⟨v, rfl, rv⟩ := r.one
    cases rv with
    | tup f rvs =>
      simp only [D.seq] at hl
      cases hl
      exact ⟨_, _, rfl, .inr ⟨f.sq, (Rv.tup f rvs).same rm q⟩⟩
    | lst f rvs =>
      simp only [D.seq] at hl
      cases hl
      exact ⟨_, _, rfl, .inl ⟨f.sq, fun p hp => q (w.put p (.tup _)) (.ref p) rfl (rm.put hp) (Fr.put rm hp) (Rv.newTup rm hp rvs)⟩⟩
    | scr f rvs =>
      simp only [D.seq] at hl
      cases hl
      exact ⟨_, _, rfl, .inl ⟨f.sq, fun p hp => q (w.put p (.tup _)) (.ref p) rfl (rm.put hp) (Fr.put rm hp) (Rv.newTup rm hp rvs)⟩⟩
    | @ref a n hM =>
      rcases seq_cases n w.m with ⟨q', hc, e⟩ | e
      · rw [e] at hl
        cases hl
        obtain ⟨ys, h1, h2⟩ := rm.lst hM hc
        exact ⟨_, _, rfl, .inl ⟨.inl (.inl h1), fun p hp => q (w.put p (.tup _)) (.ref p) rfl (rm.put hp) (Fr.put rm hp) (Rv.newTup rm hp h2)⟩⟩
      · rw [e] at hl; cases hl
    | _ => simp only [D.seq] at hl; cases hl
  · cases hd
theorem minL_fold : ∀ (l : List Int) (i : Int), (l.foldl (fun a b => if b < a then b else a) i) ∈ i :: l ∧ ∀ y ∈ i :: l, (l.foldl (fun a b => if b < a then b else a) i) ≤ y
  | [], i => by simp
  | j :: l, i => by
    rw [List.foldl_cons]
    obtain ⟨h1, h2⟩ := minL_fold l (if j < i then j else i)
    have h0 := h2 (if j < i then j else i) List.mem_cons_self
    have e1 : (if j < i then j else i) ≤ i := by split <;> omega
    have e2 : (if j < i then j else i) ≤ j := by split <;> omega
    constructor
    · rcases List.mem_cons.mp h1 with e | e
      · rw [e]; split <;> simp
      · simp [e]
    · intro y hy
      rcases List.mem_cons.mp hy with rfl | hy
      · exact Int.le_trans h0 e1
      · rcases List.mem_cons.mp hy with rfl | hy
        · exact Int.le_trans h0 e2
        · exact h2 y (List.mem_cons_of_mem _ hy)
theorem maxL_fold : ∀ (l : List Int) (i : Int), (l.foldl (fun a b => if a < b then b else a) i) ∈ i :: l ∧ ∀ y ∈ i :: l, y ≤ (l.foldl (fun a b => if a < b then b else a) i)
  | [], i => by simp
  | j :: l, i => by
    rw [List.foldl_cons]
    obtain ⟨h1, h2⟩ := maxL_fold l (if i < j then j else i)
    have h0 := h2 (if i < j then j else i) List.mem_cons_self
    have e1 : i ≤ (if i < j then j else i) := by split <;> omega
    have e2 : j ≤ (if i < j then j else i) := by split <;> omega
    constructor
    · rcases List.mem_cons.mp h1 with e | e
      · rw [e]; split <;> simp
      · simp [e]
    · intro y hy
      rcases List.mem_cons.mp hy with rfl | hy
      · exact Int.le_trans e1 h0
      · rcases List.mem_cons.mp hy with rfl | hy
        · exact Int.le_trans e2 h0
        · exact h2 y (List.mem_cons_of_mem _ hy)
theorem minL_is {ns : List Int} {k : Int} (h : minL ns = some k) : 0 < ns.length ∧ ∀ m, m ∈ ns → (∀ y, y ∈ ns → m ≤ y) → m = k := by
  cases ns with
  | nil => cases h
  | cons i l =>
    cases h
    obtain ⟨h1, h2⟩ := minL_fold l i
    exact ⟨by simp, fun m hm hle => Int.le_antisymm (hle _ h1) (h2 m hm)⟩
theorem maxL_is {ns : List Int} {k : Int} (h : maxL ns = some k) : 0 < ns.length ∧ ∀ m, m ∈ ns → (∀ y, y ∈ ns → y ≤ m) → m = k := by
  cases ns with
  | nil => cases h
  | cons i l =>
    cases h
    obtain ⟨h1, h2⟩ := maxL_fold l i
    exact ⟨by simp, fun m hm hle => Int.le_antisymm (h2 m hm) (hle _ h1)⟩
end
end LR

set_option Elab.async false
set_option linter.all false
set_option maxRecDepth 100000
set_option maxHeartbeats 4000000
namespace LR
open PySem PySem.Spec PyProof.Rows L2
/-! ### list(zip(t, u)) of two tuples -/
theorem zip_no_len : typeLookup (.type "zip") "__len__" = pure none := by rw [typeLookup_type, builtinLookup_eq_fast]; kernel_rfl
theorem zip_no_hint : typeLookup (.type "zip") "__length_hint__" = pure none := by rw [typeLookup_type, builtinLookup_eq_fast]; kernel_rfl
abbrev IsZipO (h : Heap) (z TI TO T : Addr) (f : Bool) : Prop :=
  h.get? z = some { cls := .type "zip", dict := none, data := .fields #[rawInt T, .bool f, .bool false, .ref TI, .ref TO], slots := #[] }
section
variable {prog : Program} {w : World} {A : Around} {E : Value → Shared → Prop} {s : Shared}
/-- what the zip's two iterators are kept apart from -/
structure ZipSt (h : Heap) (z TI TO i1 i2 l1 l2 : Addr) (xs ys : Array Value) (i : Nat) : Prop where
  ti : IsPair h TI (.ref i1) (.ref i2)
  it1 : h.IsTupleIter i1 l1 i
  it2 : h.IsTupleIter i2 l2 i
  t1 : h.IsTuple l1 xs
  t2 : h.IsTuple l2 ys
theorem own_again {z TI TO T : Addr} {f : Bool} {oT : Obj} (hz : IsZipO s.heap z TI TO T f) (hTa : s.heap.get? T = some oT) :
    wpAny (model prog w) A (Builtin.SmallTypes.ownedTupleIsFree (.ref z)) (fun r s1 => r = false ∧ ∃ h1, s1 = { s with heap := h1 } ∧ IsZipO h1 z TI TO T true ∧ Heap.SameBut z s.heap h1) E s := by
  unfold Builtin.SmallTypes.ownedTupleIsFree
  refine wpAny_bind (wpAny_field hz rfl (x := rawInt T) rfl ?_)
  show wpAny _ _ (loadIfAlive ((T : Int).toNat) >>= _) _ _ _
  rw [Int.toNat_natCast]
  refine wpAny_bind (PySem.W.kdx_alive hTa ?_)
  simp only [Option.isNone_some, Bool.false_eq_true, if_false]
  refine wpAny_bind (wpAny_field hz rfl (x := .bool f) rfl ?_)
  cases f with
  | true =>
    rw [if_neg (show ¬ ((Value.bool true != Value.bool true) = true) from Bool.false_ne_true)]
    exact wpAny_pure ⟨rfl, s.heap, rfl, hz, Heap.SameBut.refl _ _⟩
  | false =>
    rw [if_pos (show (Value.bool false != Value.bool true) = true from rfl)]
    refine wpAny_bind (wpAny_setField_rec hz (by simp) fun h₃ he₃ hs₃ => ?_)
    exact wpAny_pure ⟨rfl, h₃, rfl, he₃, hs₃⟩
theorem ZipSt.keep {h h' : Heap} {z TI TO i1 i2 l1 l2 : Addr} {xs ys : Array Value} {i : Nat} (D : ZipApart z TI TO i1 i2 l1 l2) (S : ZipSt h z TI TO i1 i2 l1 l2 xs ys i) (k : ∀ b o, b ≠ z → h.get? b = some o → h'.get? b = some o) : ZipSt h' z TI TO i1 i2 l1 l2 xs ys i :=
  ⟨k _ _ D.TIz S.ti, S.it1.at fun o e => k _ o D.i1z e, S.it2.at fun o e => k _ o D.i2z e, S.t1.at fun o e => k _ o D.l1z e, S.t2.at fun o e => k _ o D.l2z e⟩
/-- the second and the later draws: the tuple handed out before is alive -/
theorem zipT_again_item {z TI TO i1 i2 l1 l2 T : Addr} {f : Bool} {oT : Obj} {i : Nat} {xs ys : Array Value} {x y : Value} {Q : Value → Shared → Prop} (D : ZipApart z TI TO i1 i2 l1 l2)
    (hz : IsZipO s.heap z TI TO T f) (hTa : s.heap.get? T = some oT) (S : ZipSt s.heap z TI TO i1 i2 l1 l2 xs ys i) (hx : xs[i]? = some x) (hy : ys[i]? = some y)
    (hQ : ∀ h', IsZipO h' z TI TO T true → ZipSt h' z TI TO i1 i2 l1 l2 xs ys (i + 1) → IsPair h' s.heap.objs.size x y → h'.objs.size = s.heap.objs.size + 1 →
      (∀ c o, c ≠ z → c ≠ i1 → c ≠ i2 → s.heap.get? c = some o → h'.get? c = some o) → Q (.ref s.heap.objs.size) { s with heap := h' }) :
    wpAny (model prog w) A (Builtin.«zip.__next__» ⟨[.ref z], []⟩) (fun fin s' => ∃ v, fin = .done (.ret v) ∧ Q v s') E s := by
  show wpAny _ _ (field (.ref z) 2 >>= _) _ _ _
  refine wpAny_bind (wpAny_field hz rfl (x := .bool false) rfl ?_)
  show wpAny _ _ (field (.ref z) 3 >>= _) _ _ _
  refine wpAny_bind (wpAny_field hz rfl (x := .ref TI) rfl ?_)
  refine wpAny_bind (wpAny_seqItems S.ti rfl ?_)
  show wpAny _ _ (Builtin.SmallTypes.ownedTupleIsFree (.ref z) >>= _) _ _ _
  refine wpAny_bind (thn (own_again hz hTa) fun r s1 hr => ?_)
  obtain ⟨rfl, h1, rfl, hz1, hs1⟩ := hr
  simp only [Bool.false_eq_true, if_false]
  have S1 := S.keep D hs1.extBut
  refine wpAny_bind ?_
  rw [← Array.forIn_toList]
  simp only [List.forIn_cons, List.forIn_nil]
  refine wpAny_bind (wpAny_bind (wpAny_holding ?_))
  show wpAny _ _ (Builtin.SmallTypes.nextOf (.ref i1) >>= _) _ _ _
  refine wpAny_bind (RZ.nextOf_tuple_item S1.it1 S1.t1 hx fun h2 h12 hs2 => wpAny_pure (wpAny_pure ?_))
  refine wpAny_bind (wpAny_bind (wpAny_holding ?_))
  show wpAny _ _ (Builtin.SmallTypes.nextOf (.ref i2) >>= _) _ _ _
  refine wpAny_bind (RZ.nextOf_tuple_item (S1.it2.extBut hs2.extBut D.i12.symm) (S1.t2.extBut hs2.extBut D.l2i1) hy fun h3 h23 hs3 => wpAny_pure (wpAny_pure (wpAny_pure ?_)))
  have hsz : h3.objs.size = s.heap.objs.size := by rw [hs3.1, hs2.1, hs1.1]
  refine wpAny_bind (wpAny_newTuple (hsz := by show 2 ≤ sizeLine; decide) ?_)
  refine wpAny_pure ⟨_, rfl, ?_⟩
  show Q (.ref h3.objs.size) _
  rw [hsz]
  have k3 : ∀ c o, c ≠ z → c ≠ i1 → c ≠ i2 → s.heap.get? c = some o → h3.get? c = some o := fun c o c1 c2 c3 e => hs3.extBut _ _ c3 (hs2.extBut _ _ c2 (hs1.extBut _ _ c1 e))
  have hz3 : IsZipO h3 z TI TO T true := hs3.extBut _ _ D.i2z.symm (hs2.extBut _ _ D.i1z.symm hz1)
  have up : ∀ c o, h3.get? c = some o → (h3.push { cls := .type "tuple", data := .seq #[x, y] }).get? c = some o := fun c o e => Heap.get?_push_of_some _ e
  refine hQ (h3.push { cls := .type "tuple", data := .seq #[x, y] }) (up _ _ hz3) ⟨up _ _ (hs3.extBut _ _ D.TIi2 (hs2.extBut _ _ D.TIi1 S1.ti)), (h12.extBut hs3.extBut D.i12).at fun o e => up _ o e, h23.at fun o e => up _ o e, ?_, ?_⟩ ?_ ?_ fun c o c1 c2 c3 e => up _ _ (k3 c o c1 c2 c3 e)
  · exact (S1.t1.extBut hs2.extBut D.l1i1 |>.extBut hs3.extBut D.l1i2).at fun o e => up _ o e
  · exact (S1.t2.extBut hs2.extBut D.l2i1 |>.extBut hs3.extBut D.l2i2).at fun o e => up _ o e
  · show (h3.push { cls := .type "tuple", data := .seq #[x, y] }).get? s.heap.objs.size = _
    rw [← hsz]
    exact Heap.get?_push_size _ rfl
  · rw [Heap.size_push, hsz]
theorem zipT_again_end {z TI TO i1 i2 l1 l2 T : Addr} {f : Bool} {oT : Obj} {i : Nat} {xs ys : Array Value} {Q : Fin → Shared → Prop} (hh : A.handled = none) (D : ZipApart z TI TO i1 i2 l1 l2)
    (hz : IsZipO s.heap z TI TO T f) (hTa : s.heap.get? T = some oT) (S : ZipSt s.heap z TI TO i1 i2 l1 l2 xs ys i) (hend : xs[i]? = none ∨ ys[i]? = none)
    (hE : ∀ h' e, (∀ c o, c ≠ z → c ≠ i1 → c ≠ i2 → s.heap.get? c = some o → h'.get? c = some o) → (∃ o, h'.get? e = some o ∧ o.cls = .type "StopIteration") → E (.ref e) { s with heap := h' }) :
    wpAny (model prog w) A (Builtin.«zip.__next__» ⟨[.ref z], []⟩) Q E s := by
  show wpAny _ _ (field (.ref z) 2 >>= _) _ _ _
  refine wpAny_bind (wpAny_field hz rfl (x := .bool false) rfl ?_)
  show wpAny _ _ (field (.ref z) 3 >>= _) _ _ _
  refine wpAny_bind (wpAny_field hz rfl (x := .ref TI) rfl ?_)
  refine wpAny_bind (wpAny_seqItems S.ti rfl ?_)
  show wpAny _ _ (Builtin.SmallTypes.ownedTupleIsFree (.ref z) >>= _) _ _ _
  refine wpAny_bind (thn (own_again hz hTa) fun r s1 hr => ?_)
  obtain ⟨rfl, h1, rfl, hz1, hs1⟩ := hr
  simp only [Bool.false_eq_true, if_false]
  have S1 := S.keep D hs1.extBut
  refine wpAny_bind ?_
  rw [← Array.forIn_toList]
  simp only [List.forIn_cons, List.forIn_nil]
  refine wpAny_bind (wpAny_bind (wpAny_holding ?_))
  show wpAny _ _ (Builtin.SmallTypes.nextOf (.ref i1) >>= _) _ _ _
  cases hx : xs[i]? with
  | none =>
    refine wpAny_bind (RZ.nextOf_tuple_end hh S1.it1 S1.t1 hx fun h2 e hs2 he => ?_)
    exact hE h2 e (fun c o c1 c2 c3 q => hs2 _ _ c2 (hs1.extBut _ _ c1 q)) he
  | some x =>
    have hy : ys[i]? = none := by rcases hend with h | h; rw [hx] at h; cases h; exact h
    refine wpAny_bind (RZ.nextOf_tuple_item S1.it1 S1.t1 hx fun h2 h12 hs2 => wpAny_pure (wpAny_pure ?_))
    refine wpAny_bind (wpAny_bind (wpAny_holding ?_))
    show wpAny _ _ (Builtin.SmallTypes.nextOf (.ref i2) >>= _) _ _ _
    refine wpAny_bind (RZ.nextOf_tuple_end hh (S1.it2.extBut hs2.extBut D.i12.symm) (S1.t2.extBut hs2.extBut D.l2i1) hy fun h3 e hs3 he => ?_)
    exact hE h3 e (fun c o c1 c2 c3 q => hs3 _ _ c3 (hs2.extBut _ _ c2 (hs1.extBut _ _ c1 q))) he
theorem pyNext_again_item {z TI TO i1 i2 l1 l2 T : Addr} {f : Bool} {oT : Obj} {i : Nat} {xs ys : Array Value} {x y : Value} {Q : Option Value → Shared → Prop} (D : ZipApart z TI TO i1 i2 l1 l2)
    (hz : IsZipO s.heap z TI TO T f) (hTa : s.heap.get? T = some oT) (S : ZipSt s.heap z TI TO i1 i2 l1 l2 xs ys i) (hx : xs[i]? = some x) (hy : ys[i]? = some y)
    (hQ : ∀ h', IsZipO h' z TI TO T true → ZipSt h' z TI TO i1 i2 l1 l2 xs ys (i + 1) → IsPair h' s.heap.objs.size x y → h'.objs.size = s.heap.objs.size + 1 →
      (∀ c o, c ≠ z → c ≠ i1 → c ≠ i2 → s.heap.get? c = some o → h'.get? c = some o) → Q (some (.ref s.heap.objs.size)) { s with heap := h' }) :
    wpAny (model prog w) A (pyNext (.ref z)) Q E s := by
  have hT : s.TypeIs (.ref z) "zip" := ⟨_, hz, rfl⟩
  unfold pyNext
  exact wpAny_bind (wpAny_attempt (wpAny_callSpecial?_slot (name := Str.ofString "__next__") hT F.slot_zip_next
    (wpAny_call_entry F.slot_zip_next hT F.entry_zip_next
      (zipT_again_item D hz hTa S hx hy fun h' a1 a2 a3 a4 a5 => wpAny_pure (hQ h' a1 a2 a3 a4 a5)) (F.args_zip_next_1 _))))
theorem pyNext_again_end {z TI TO i1 i2 l1 l2 T : Addr} {f : Bool} {oT : Obj} {i : Nat} {xs ys : Array Value} {Q : Option Value → Shared → Prop} (hh : A.handled = none) (D : ZipApart z TI TO i1 i2 l1 l2)
    (hz : IsZipO s.heap z TI TO T f) (hTa : s.heap.get? T = some oT) (S : ZipSt s.heap z TI TO i1 i2 l1 l2 xs ys i) (hend : xs[i]? = none ∨ ys[i]? = none)
    (hQ : ∀ h', (∀ c o, c ≠ z → c ≠ i1 → c ≠ i2 → s.heap.get? c = some o → h'.get? c = some o) → Q none { s with heap := h' }) : wpAny (model prog w) A (pyNext (.ref z)) Q E s := by
  have hT : s.TypeIs (.ref z) "zip" := ⟨_, hz, rfl⟩
  unfold pyNext
  refine wpAny_bind (wpAny_attempt (wpAny_callSpecial?_slot (name := Str.ofString "__next__") hT F.slot_zip_next
    (wpAny_call_entry F.slot_zip_next hT F.entry_zip_next (zipT_again_end hh D hz hTa S hend fun h' e hk he => ?_) (F.args_zip_next_1 _))))
  obtain ⟨o, ho, hc⟩ := he
  refine wpAny_bind (wpAny_isInstance (T := "StopIteration") (b := true) ⟨o, ho, hc⟩ isSubtype_stop ?_)
  exact wpAny_pure (hQ _ hk)
/-- what the list has taken -/
def PairsAt (lo : Nat) (h : Heap) (acc : Array Value) (xs ys : Array Value) (bad : List Addr) : Prop :=
  ∀ (j : Nat) (v : Value), acc[j]? = some v → ∃ (T : Addr) (x y : Value), v = .ref T ∧ (T ∉ bad ∧ lo ≤ T) ∧ IsPair h T x y ∧ xs[j]? = some x ∧ ys[j]? = some y
theorem PairsAt.keep {lo : Nat} {h h' : Heap} {acc xs ys : Array Value} {bad : List Addr} (P : PairsAt lo h acc xs ys bad) (k : ∀ b o, b ∉ bad → h.get? b = some o → h'.get? b = some o) : PairsAt lo h' acc xs ys bad :=
  fun j v e => let ⟨T, x, y, e1, e2, e3, e4⟩ := P j v e; ⟨T, x, y, e1, e2, k _ _ e2.1 e3, e4⟩
theorem PairsAt.push {lo : Nat} {h : Heap} {acc xs ys : Array Value} {bad : List Addr} {T : Addr} {x y : Value} (P : PairsAt lo h acc xs ys bad) (hT : T ∉ bad ∧ lo ≤ T) (hp : IsPair h T x y) (hx : xs[acc.size]? = some x) (hy : ys[acc.size]? = some y) : PairsAt lo h (acc.push (.ref T)) xs ys bad := fun j v e => by
  rw [Array.getElem?_push] at e
  split at e
  · rename_i hj
    cases e
    subst hj
    exact ⟨T, x, y, rfl, hT, hp, hx, hy⟩
  · exact P j v e
/-- the list.extend loop, the iterator a zip that has handed out T -/
theorem zip_loop {R : Result → Shared → Prop} {lo : Nat} {z TI TO i1 i2 l1 l2 T S : Addr} {n : Nat} {xs ys : Array Value} (hh : A.handled = none) (D : ZipApart z TI TO i1 i2 l1 l2) (hSz : S ≠ z) (hS1 : S ≠ i1) (hS2 : S ≠ i2) (hSl1 : S ≠ l1) (hSl2 : S ≠ l2) (hSTI : S ≠ TI) (hST : S ≠ T)
    (hn : n ≤ sizeLine) (hlt : ∀ i, i < n → ∃ x y, xs[i]? = some x ∧ ys[i]? = some y) (hend : xs[n]? = none ∨ ys[n]? = none) (res : Value) :
    ∀ (k i : Nat) (s : Shared) (f : Bool) (oT : Obj) (acc : Array Value) (c : Nat), n - i = k → i ≤ n → IsZipO s.heap z TI TO T f → s.heap.get? T = some oT → T ≠ z → T ≠ i1 → T ≠ i2 → ZipSt s.heap z TI TO i1 i2 l1 l2 xs ys i →
      s.heap.get? S = some { cls := .type "list", dict := none, data := .seq acc c, slots := #[] } → acc.size = i → lo ≤ s.heap.objs.size → PairsAt lo s.heap acc xs ys [z, i1, i2, S] →
      (∀ h' acc' c', (∀ b o, b ∉ [z, i1, i2, S] → s.heap.get? b = some o → h'.get? b = some o) → h'.get? S = some { cls := .type "list", dict := none, data := .seq acc' c', slots := #[] } → acc'.size = n → PairsAt lo h' acc' xs ys [z, i1, i2, S] → R (.ok (.ret res)) { s with heap := h' }) →
      codeAny (model prog w) A (.builtin "list.extend.loop" ⟨[.ref S, .ref z, res], []⟩) R s := by
  intro k
  induction k with
  | zero =>
    intro i s f oT acc c hk hi hz hTa hTz hT1 hT2 St hS hacc hlo hP hR
    have hin : i = n := by omega
    subst hin
    refine codeAny_builtin F.entry_extend_loop ?_
    rw [Around.under_plainId F.plain_extend_loop _]
    show wpAny _ A.in1 (pyNext (.ref z) >>= _) _ _ s
    refine wpAny_bind (pyNext_again_end (A := A.in1) hh D hz hTa St hend fun h' hk' => ?_)
    refine wpAny_pure (hR h' acc c (fun b o hb e => hk' b o (fun q => hb (by simp [q])) (fun q => hb (by simp [q])) (fun q => hb (by simp [q])) e) (hk' _ _ hSz hS1 hS2 hS) hacc (hP.keep fun b o hb e => hk' b o (fun q => hb (by simp [q])) (fun q => hb (by simp [q])) (fun q => hb (by simp [q])) e))
  | succ k ih =>
    intro i s f oT acc c hk hi hz hTa hTz hT1 hT2 St hS hacc hlo hP hR
    have hi' : i < n := by omega
    obtain ⟨x, y, hx, hy⟩ := hlt i hi'
    refine codeAny_builtin F.entry_extend_loop ?_
    rw [Around.under_plainId F.plain_extend_loop _]
    show wpAny _ A.in1 (pyNext (.ref z) >>= _) _ _ s
    refine wpAny_bind (pyNext_again_item (A := A.in1) D hz hTa St hx hy fun h' hz' St' hpair hsz hk' => ?_)
    have hS' := hk' _ _ hSz hS1 hS2 hS
    have hTa' := hk' _ _ hTz hT1 hT2 hTa
    have fresh : ∀ b ∈ [z, i1, i2, S], b < s.heap.objs.size := fun b hb => by
      have e' : b = z ∨ b = i1 ∨ b = i2 ∨ b = S := by simpa using hb
      rcases e' with q | q | q | q
      · rw [q]; exact Heap.lt_size hz
      · rw [q]; obtain ⟨_, e1, _⟩ := St.it1; exact Heap.lt_size e1
      · rw [q]; obtain ⟨_, e1, _⟩ := St.it2; exact Heap.lt_size e1
      · rw [q]; exact Heap.lt_size hS
    have hTn : s.heap.objs.size ∉ [z, i1, i2, S] := fun hm => Nat.lt_irrefl _ (fresh _ hm)
    show wpAny _ A.in1 (updateSeq S (·.push (.ref s.heap.objs.size)) >>= _) _ _ _
    refine wpAny_bind ?_
    refine wpAny_updateSeq hS' rfl (wpAny_pure ⟨plainId_quiet F.plain_extend_loop _, ?_⟩) (by rw [hacc]; omega) (by show (acc.push (.ref s.heap.objs.size)).size ≤ sizeLine + 1; rw [Array.size_push, hacc]; omega)
    generalize hh2 : h'.update S (Obj.mapSeq (·.push (.ref s.heap.objs.size))) = h2
    have up : ∀ b o, b ≠ S → h'.get? b = some o → h2.get? b = some o := fun b o hb e => by rw [← hh2]; exact (Heap.get?_update_other _ _ (Ne.symm hb)).trans e
    obtain ⟨c2, hS2'⟩ : ∃ c2, h2.get? S = some { cls := .type "list", dict := none, data := .seq (acc.push (.ref s.heap.objs.size)) c2, slots := #[] } := by rw [← hh2]; exact ⟨_, Heap.get?_update_self _ hS' rfl⟩
    have hsz2 : h2.objs.size = s.heap.objs.size + 1 := by rw [← hh2, (Heap.SameBut.update h' S _).1, hsz]
    have P1 : PairsAt lo h' acc xs ys [z, i1, i2, S] := hP.keep fun b o hb e => hk' b o (fun q => hb (by simp [q])) (fun q => hb (by simp [q])) (fun q => hb (by simp [q])) e
    have P2 : PairsAt lo h2 (acc.push (.ref s.heap.objs.size)) xs ys [z, i1, i2, S] := PairsAt.keep (P1.push ⟨hTn, hlo⟩ hpair (by rw [hacc]; exact hx) (by rw [hacc]; exact hy)) fun b o hb e => up b o (fun q => hb (by simp [q])) e
    have St2 : ZipSt h2 z TI TO i1 i2 l1 l2 xs ys (i + 1) := ⟨up _ _ hSTI.symm St'.ti, St'.it1.at fun o e => up _ o hS1.symm e, St'.it2.at fun o e => up _ o hS2.symm e, St'.t1.at fun o e => up _ o hSl1.symm e, St'.t2.at fun o e => up _ o hSl2.symm e⟩
    refine ih (i + 1) _ true oT _ _ (by omega) hi' (up _ _ hSz.symm hz') (up _ _ hST.symm hTa') hTz hT1 hT2 St2 hS2' (by rw [Array.size_push, hacc]) (by show lo ≤ h2.objs.size; rw [hsz2]; omega) P2 fun h3 acc3 c3 hk3 hS3 hsz3 P3 => ?_
    exact hR h3 acc3 c3 (fun b o hb e => hk3 b o hb (up b o (fun q => hb (by simp [q])) (hk' b o (fun q => hb (by simp [q])) (fun q => hb (by simp [q])) (fun q => hb (by simp [q])) e))) hS3 hsz3 P3
/-- the whole loop -/
theorem zip_loop0 {R : Result → Shared → Prop} {lo : Nat} (hlo : lo ≤ s.heap.objs.size) {z TI TO i1 i2 l1 l2 S : Addr} {n : Nat} {a b : Value} {xs ys : Array Value} (hh : A.handled = none) (D : ZipApart z TI TO i1 i2 l1 l2) (hSz : S ≠ z) (hS1 : S ≠ i1) (hS2 : S ≠ i2) (hSl1 : S ≠ l1) (hSl2 : S ≠ l2) (hSTI : S ≠ TI) (hSTO : S ≠ TO)
    (hn : n ≤ sizeLine) (hlt : ∀ i, i < n → ∃ x y, xs[i]? = some x ∧ ys[i]? = some y) (hend : xs[n]? = none ∨ ys[n]? = none) (res : Value) (c : Nat)
    (hz : IsZip s.heap z TI TO .none) (hTO : IsPair s.heap TO a b) (St : ZipSt s.heap z TI TO i1 i2 l1 l2 xs ys 0) (hS : s.heap.get? S = some { cls := .type "list", dict := none, data := .seq #[] c, slots := #[] })
    (hR : ∀ h' acc' c', (∀ b o, b ∉ [z, TO, i1, i2, S] → s.heap.get? b = some o → h'.get? b = some o) → h'.get? S = some { cls := .type "list", dict := none, data := .seq acc' c', slots := #[] } → acc'.size = n → PairsAt lo h' acc' xs ys [z, i1, i2, S] → R (.ok (.ret res)) { s with heap := h' }) :
    codeAny (model prog w) A (.builtin "list.extend.loop" ⟨[.ref S, .ref z, res], []⟩) R s := by
  refine codeAny_builtin F.entry_extend_loop ?_
  rw [Around.under_plainId F.plain_extend_loop _]
  show wpAny _ A.in1 (pyNext (.ref z) >>= _) _ _ s
  cases n with
  | zero =>
    refine wpAny_bind (RZ.pyNext_zipT_end (A := A.in1) hh D hz St.ti hTO St.it1 St.it2 St.t1 St.t2 hend fun h' hk' => ?_)
    refine wpAny_pure (hR h' #[] c (fun b o hb e => hk' b o (fun q => hb (by simp [q])) (fun q => hb (by simp [q])) (fun q => hb (by simp [q])) (fun q => hb (by simp [q])) e) (hk' _ _ hSz hSTO hS1 hS2 hS) rfl fun j v e => by simp at e)
  | succ n =>
    obtain ⟨x, y, hx, hy⟩ := hlt 0 (Nat.succ_pos n)
    refine wpAny_bind (RZ.pyNext_zipT_item (A := A.in1) D hz St.ti hTO St.it1 St.it2 St.t1 St.t2 hx hy fun h' hz' hTO' h1' h2' hpair hsz hk' => ?_)
    have hS' := hk' _ _ hSz hSTO hS1 hS2 hS
    have fresh : ∀ b ∈ [z, i1, i2, S], b < s.heap.objs.size := fun b hb => by
      have e' : b = z ∨ b = i1 ∨ b = i2 ∨ b = S := by simpa using hb
      rcases e' with q | q | q | q
      · rw [q]; exact Heap.lt_size hz
      · rw [q]; obtain ⟨_, e1, _⟩ := St.it1; exact Heap.lt_size e1
      · rw [q]; obtain ⟨_, e1, _⟩ := St.it2; exact Heap.lt_size e1
      · rw [q]; exact Heap.lt_size hS
    have hTn : s.heap.objs.size ∉ [z, i1, i2, S] := fun hm => Nat.lt_irrefl _ (fresh _ hm)
    have hn2 := hn
    rw [sizeLine_eq] at hn2
    show wpAny _ A.in1 (updateSeq S (·.push (.ref s.heap.objs.size)) >>= _) _ _ _
    refine wpAny_bind ?_
    refine wpAny_updateSeq hS' rfl (wpAny_pure ⟨plainId_quiet F.plain_extend_loop _, ?_⟩) (by show 0 ≤ _; omega) (by show 1 ≤ sizeLine + 1; rw [sizeLine_eq]; decide)
    generalize hh2 : h'.update S (Obj.mapSeq (·.push (.ref s.heap.objs.size))) = h2
    have up : ∀ b o, b ≠ S → h'.get? b = some o → h2.get? b = some o := fun b o hb e => by rw [← hh2]; exact (Heap.get?_update_other _ _ (Ne.symm hb)).trans e
    obtain ⟨c2, hS2'⟩ : ∃ c2, h2.get? S = some { cls := .type "list", dict := none, data := .seq ((#[] : Array Value).push (.ref s.heap.objs.size)) c2, slots := #[] } := by rw [← hh2]; exact ⟨_, Heap.get?_update_self _ hS' rfl⟩
    have P2 : PairsAt lo h2 ((#[] : Array Value).push (.ref s.heap.objs.size)) xs ys [z, i1, i2, S] := PairsAt.keep (PairsAt.push (lo := lo) (h := h') (acc := #[]) (fun j v e => by simp at e) ⟨hTn, hlo⟩ hpair hx hy) fun b o hb e => up b o (fun q => hb (by simp [q])) e
    have k' : ∀ c o, c ≠ z → c ≠ TO → c ≠ i1 → c ≠ i2 → c ≠ S → s.heap.get? c = some o → h2.get? c = some o := fun c o c1 c2 c3 c4 c5 e => up c o c5 (hk' c o c1 c2 c3 c4 e)
    have St2 : ZipSt h2 z TI TO i1 i2 l1 l2 xs ys 1 := ⟨up _ _ hSTI.symm (hk' _ _ D.TIz D.TITO D.TIi1 D.TIi2 St.ti), h1'.at fun o e => up _ o hS1.symm e, h2'.at fun o e => up _ o hS2.symm e, St.t1.at fun o e => k' _ o D.l1z D.l1TO D.l1i1 D.l1i2 hSl1.symm e, St.t2.at fun o e => k' _ o D.l2z D.l2TO D.l2i1 D.l2i2 hSl2.symm e⟩
    have hTz : s.heap.objs.size ≠ z := fun q => hTn (by simp [q])
    have hT1 : s.heap.objs.size ≠ i1 := fun q => hTn (by simp [q])
    have hT2 : s.heap.objs.size ≠ i2 := fun q => hTn (by simp [q])
    have hTS : S ≠ s.heap.objs.size := fun q => hTn (by simp [q.symm])
    have hzO : IsZipO h2 z TI TO s.heap.objs.size false := up _ _ hSz.symm hz'
    refine zip_loop (T := s.heap.objs.size) hh D hSz hS1 hS2 hSl1 hSl2 hSTI hTS hn hlt hend res n 1 _ false _ _ _ (by omega) (by omega) hzO (up _ _ hTS.symm hpair) hTz hT1 hT2 St2 hS2' rfl (by show lo ≤ h2.objs.size; rw [← hh2, (Heap.SameBut.update h' S _).1, hsz]; omega) P2 fun h3 acc3 c3 hk3 hS3 hsz3 P3 => ?_
    exact hR h3 acc3 c3 (fun b o hb e => hk3 b o (fun q => hb (by simp at q ⊢; rcases q with q | q | q | q <;> simp [q])) (k' b o (fun q => hb (by simp [q])) (fun q => hb (by simp [q])) (fun q => hb (by simp [q])) (fun q => hb (by simp [q])) (fun q => hb (by simp [q])) e)) hS3 hsz3 P3
theorem zip_extend {R : Result → Shared → Prop} {lo : Nat} (hlo : lo ≤ s.heap.objs.size) {z TI TO i1 i2 l1 l2 S : Addr} {n : Nat} {a b : Value} {xs ys : Array Value} (hh : A.handled = none) (D : ZipApart z TI TO i1 i2 l1 l2) (hSz : S ≠ z) (hS1 : S ≠ i1) (hS2 : S ≠ i2) (hSl1 : S ≠ l1) (hSl2 : S ≠ l2) (hSTI : S ≠ TI) (hSTO : S ≠ TO)
    (hn : n ≤ sizeLine) (hlt : ∀ i, i < n → ∃ x y, xs[i]? = some x ∧ ys[i]? = some y) (hend : xs[n]? = none ∨ ys[n]? = none) (res : Value) (c : Nat)
    (hz : IsZip s.heap z TI TO .none) (hTO : IsPair s.heap TO a b) (St : ZipSt s.heap z TI TO i1 i2 l1 l2 xs ys 0) (hS : s.heap.get? S = some { cls := .type "list", data := .seq #[] c })
    (hR : ∀ h' acc' c', (∀ b o, b ∉ [z, TO, i1, i2, S] → s.heap.get? b = some o → h'.get? b = some o) → h'.get? S = some { cls := .type "list", dict := none, data := .seq acc' c', slots := #[] } → acc'.size = n → PairsAt lo h' acc' xs ys [z, i1, i2, S] → R (.ok (.ret res)) { s with heap := h' }) :
    wpAny (model prog w) A.in1 (Builtin.List.listExtendWith (.ref S) (.ref z) res)
      (fun fin s' => match fin with | .done f => R (.ok f) s' | .again c' => c'.quiet = true ∧ codeAny (model prog w) A c' R s') (fun e s' => R (.error e) s') s := by
  have hT : s.TypeIs (.ref z) "zip" := ⟨_, hz, rfl⟩
  unfold Builtin.List.listExtendWith
  refine wpAny_bind (wpAny_typeOf hT ?_)
  have h1 : Builtin.List.listSameRef (.ref S) (.ref z) = false := by simp [Builtin.List.listSameRef, hSz]
  have h2 : (Value.type "zip" == Value.type "list") = false := by decide
  have h3 : (Value.type "zip" == Value.type "tuple") = false := by decide
  simp only [h1, h2, h3, Bool.or_false, Bool.false_eq_true, if_false]
  refine wpAny_bind (wpAny_pyIter_zip hz ?_)
  refine wpAny_bind (wpAny_holding ?_)
  unfold Builtin.List.listLengthHint
  refine wpAny_bind (wpAny_specialOf hT zip_no_len ?_)
  show wpAny _ A.in1 (specialOf (Value.ref z) (Str.ofString "__length_hint__") >>= _) _ _ _
  refine wpAny_bind (wpAny_specialOf hT zip_no_hint ?_)
  refine wpAny_pure ?_
  show wpAny _ A.in1 (rule "list.extend.makes-room" >>= fun _ => Builtin.List.listTouch (.ref S) >>= fun _ =>
    again (.builtin "list.extend.loop" ⟨[.ref S, .ref z, res], []⟩)) _ _ _
  refine wpAny_bind (wpAny_rule ?_)
  refine wpAny_bind ?_
  show wpAny _ A.in1 (updateSeq S (·.push .none) >>= fun _ => updateSeq S (·.pop)) _ _ _
  refine wpAny_bind (wpAny_updateSeq hS rfl ?_)
  have hS₂ := Heap.get?_update_self (Obj.mapSeq (·.push Value.none)) hS rfl
  refine wpAny_updateSeq (hz := by seq_fits) hS₂ rfl ?_
  have hS₃ := Heap.get?_update_self (Obj.mapSeq (·.pop)) hS₂ rfl
  have oth : ∀ b o, b ≠ S → s.heap.get? b = some o → ((s.heap.update S (Obj.mapSeq (·.push Value.none))).update S (Obj.mapSeq (·.pop))).get? b = some o :=
    fun b o hb e => (Heap.get?_update_other _ _ (Ne.symm hb)).trans ((Heap.get?_update_other _ _ (Ne.symm hb)).trans e)
  have St' : ZipSt ((s.heap.update S (Obj.mapSeq (·.push Value.none))).update S (Obj.mapSeq (·.pop))) z TI TO i1 i2 l1 l2 xs ys 0 :=
    ⟨oth _ _ hSTI.symm St.ti, St.it1.at fun o e => oth _ o hS1.symm e, St.it2.at fun o e => oth _ o hS2.symm e, St.t1.at fun o e => oth _ o hSl1.symm e, St.t2.at fun o e => oth _ o hSl2.symm e⟩
  refine wpAny_pure ⟨plainId_quiet F.plain_extend_loop _, zip_loop0 (n := n) (lo := lo) (by show lo ≤ _; rw [(Heap.SameBut.update _ S _).1, (Heap.SameBut.update _ S _).1]; exact hlo) hh D hSz hS1 hS2 hSl1 hSl2 hSTI hSTO hn hlt hend res _ (oth _ _ hSz.symm hz) (oth _ _ hSTO.symm hTO) St' hS₃ fun h' acc' c' hk hS' hsz P => ?_⟩
  exact hR h' acc' c' (fun b o hb e => hk b o hb (oth b o (fun q => hb (by simp [q])) e)) hS' hsz P
theorem call_list_zip {Q : Value → Shared → Prop} {z TI TO i1 i2 l1 l2 : Addr} {n : Nat} {a b : Value} {xs ys : Array Value} (hh : A.handled = none) (D : ZipApart z TI TO i1 i2 l1 l2)
    (hn : n ≤ sizeLine) (hlt : ∀ i, i < n → ∃ x y, xs[i]? = some x ∧ ys[i]? = some y) (hend : xs[n]? = none ∨ ys[n]? = none)
    (hz : IsZip s.heap z TI TO .none) (hTO : IsPair s.heap TO a b) (St : ZipSt s.heap z TI TO i1 i2 l1 l2 xs ys 0)
    (hQ : ∀ h' acc' c', (∀ b o, b ∉ [z, TO, i1, i2] → s.heap.get? b = some o → h'.get? b = some o) → h'.get? s.heap.objs.size = some { cls := .type "list", dict := none, data := .seq acc' c', slots := #[] } → acc'.size = n → PairsAt s.heap.objs.size h' acc' xs ys [z, i1, i2, s.heap.objs.size] → Q (.ref s.heap.objs.size) { s with heap := h' }) :
    wpAny (model prog w) A (call (.type "list") [.ref z]) Q E s := by
  have lt1 : ∀ {b : Addr} {o : Obj}, s.heap.get? b = some o → s.heap.objs.size ≠ b := fun e => Nat.ne_of_gt (Heap.lt_size e)
  have hSz := lt1 hz
  have hSTI := lt1 St.ti
  have hSTO := lt1 hTO
  have hS1 : s.heap.objs.size ≠ i1 := by obtain ⟨_, e, _⟩ := St.it1; exact lt1 e
  have hS2 : s.heap.objs.size ≠ i2 := by obtain ⟨_, e, _⟩ := St.it2; exact lt1 e
  have hSl1 : s.heap.objs.size ≠ l1 := by obtain ⟨_, e, _⟩ := St.t1; exact lt1 e
  have hSl2 : s.heap.objs.size ≠ l2 := by obtain ⟨_, e, _⟩ := St.t2; exact lt1 e
  refine callType_codes (Q₁ := fun obj s₁ => obj = .ref s.heap.objs.size ∧ s₁ = { s with heap := s.heap.push { cls := .type "list", data := .seq #[] } }) F.called_list (F.typeCall_list_1 _) F.entry_list_init
    (code_list_new _ ⟨rfl, rfl⟩) fun obj s₁ h₁ => ?_
  obtain ⟨rfl, rfl⟩ := h₁
  have hS : (s.heap.push { cls := .type "list", data := .seq #[] }).get? s.heap.objs.size = some { cls := .type "list", data := .seq #[] } := Heap.get?_push_size _ rfl
  have up : ∀ b o, s.heap.get? b = some o → (s.heap.push { cls := .type "list", data := .seq #[] }).get? b = some o := fun b o e => Heap.get?_push_of_some _ e
  refine ⟨⟨_, hS, rfl⟩, F.args_list_init_2 _ _, ?_⟩
  show wpAny _ A.in1.in1 (do let old ← Builtin.List.listItems (.ref s.heap.objs.size); Builtin.List.listUpdate (.ref s.heap.objs.size) (fun _ => #[]); letGo old.toList.reverse; Builtin.List.listExtendWith (.ref s.heap.objs.size) (.ref z) .none) _ _ _
  refine wpAny_bind ?_
  unfold Builtin.List.listItems
  refine wpAny_bind (wpAny_seqItems hS rfl (wpAny_pure ?_))
  show wpAny _ A.in1.in1 (updateSeq s.heap.objs.size (fun _ => #[]) >>= fun _ => letGo (#[] : Array Value).toList.reverse >>= fun _ => Builtin.List.listExtendWith (.ref s.heap.objs.size) (.ref z) .none) _ _ _
  refine wpAny_bind (wpAny_updateSeq hS rfl ?_)
  have hS₂ := Heap.get?_update_self (Obj.mapSeq (fun _ => (#[] : Array Value))) hS rfl
  generalize hh2 : (s.heap.push { cls := .type "list", data := .seq #[] }).update s.heap.objs.size (Obj.mapSeq (fun _ => (#[] : Array Value))) = h2 at hS₂
  have oth : ∀ b o, b ≠ s.heap.objs.size → s.heap.get? b = some o → h2.get? b = some o :=
    fun b o hb e => by rw [← hh2]; exact (Heap.get?_update_other _ _ (Ne.symm hb)).trans (up b o e)
  refine wpAny_bind (wpAny_letGo ?_)
  have St' : ZipSt h2 z TI TO i1 i2 l1 l2 xs ys 0 :=
    ⟨oth _ _ hSTI.symm St.ti, St.it1.at fun o e => oth _ o hS1.symm e, St.it2.at fun o e => oth _ o hS2.symm e, St.t1.at fun o e => oth _ o hSl1.symm e, St.t2.at fun o e => oth _ o hSl2.symm e⟩
  refine zip_extend (A := A.in1) (n := n) (lo := s.heap.objs.size) (by show _ ≤ h2.objs.size; rw [← hh2, (Heap.SameBut.update _ _ _).1, Heap.size_push]; omega) hh D hSz hS1 hS2 hSl1 hSl2 hSTI hSTO hn hlt hend .none _ (oth _ _ hSz.symm hz) (oth _ _ hSTO.symm hTO) St' hS₂ fun h' acc' c' hk hS' hsz P => ?_
  exact ⟨rfl, hQ h' acc' c' (fun b o hb e => by
    have hbS : b ≠ s.heap.objs.size := Nat.ne_of_lt (Heap.lt_size e)
    exact hk b o (fun q => hb (by simp at q ⊢; rcases q with q | q | q | q | q <;> first | exact absurd q hbS | simp [q])) (oth b o hbS e)) hS' hsz P⟩
end
section
/-- the pairs of two lists of values -/
def zipV : List V → List V → List (V × V)
  | x :: xs, y :: ys => (x, y) :: zipV xs ys
  | _, _ => []
end
end LR

set_option Elab.async false
set_option linter.all false
set_option maxRecDepth 100000
set_option maxHeartbeats 4000000
namespace LR
open PySem PySem.Spec PyProof.Rows L2
/-! ### several new objects at once -/
def ups (H : Hp) (N : List (Addr × HO)) : Hp := fun b => match N.lookup b with
  | some o => some o
  | none => H b
theorem ups_none {H : Hp} {N : List (Addr × HO)} {b : Addr} (h : N.lookup b = none) : ups H N b = H b := by unfold ups; rw [h]
theorem ups_some {H : Hp} {N : List (Addr × HO)} {b : Addr} {o : HO} (h : N.lookup b = some o) : ups H N b = some o := by unfold ups; rw [h]
theorem ups_old {H : Hp} {N : List (Addr × HO)} {b : Addr} {o : HO} (hN : ∀ a o, N.lookup a = some o → H a = none) (h : H b = some o) : ups H N b = some o := by
  rw [ups_none]
  · exact h
  · cases e : N.lookup b with
    | none => rfl
    | some u => rw [hN b u e] at h; cases h
section
variable {X : Cx} {pins : List (Addr × Obj)} {σ : L2.St} {H : Hp} {s : Shared} {h' : Heap}
theorem Inv.lays {H' : Hp} {t' : Nat} (I : Inv X pins σ H s) (k : ∀ b u, s.heap.get? b = some u → h'.get? b = some u) (hold : ∀ b o, H b = some o → H' b = some o) (hnew : ∀ b o, H' b = some o → H b = some o ∨ s.heap.objs.size ≤ b)
    (hok : ∀ b o, H' b = some o → H b = none → ObjOk X.prog X.w H' h' b o) : Inv X pins σ H' { s with heap := h', toks := t' } := by
  refine I.un ⟨fun b o e _ _ _ => k b o e, fun b o e _ _ _ => ⟨o.slots, k b o e⟩, fun b o e n _ => ?_, fun b o e _ => ⟨o, k b o e⟩, fun b xs e => hold _ _ e, fun b o u e => hold _ _ e, fun b ps e => ⟨#[], by rw [hold _ _ e]; simp⟩⟩ fun b o e => ?_
  · cases q : H' b with
    | none => rfl
    | some u =>
      rcases hnew b u q with z | z
      · rw [n] at z; cases z
      · exact absurd (Nat.lt_of_lt_of_le (Heap.lt_size e) z) (Nat.lt_irrefl _)
  · cases q : H b with
    | none => exact hok b o e q
    | some u =>
      have e2 := hold b u q
      rw [e] at e2
      cases e2
      exact (I.hok b o q).stay (fun c v _ z => k c v z) (fun c z => hold _ _ z) fun c xs z => hold _ _ z
end
/-! ### list(zip(t, u)) -/
def ZipNew (H : Hp) (xs ys : List V) (N : List (Addr × HO)) (L : Addr) (zs : List V) : Prop :=
  (∀ a o, N.lookup a = some o → H a = none ∧ ∃ x y, o = .tup [x, y]) ∧ H L = none ∧ N.lookup L = none ∧ zs.length = min xs.length ys.length ∧
    ∀ (j : Nat) (v : V), zs[j]? = some v → ∃ (T : Addr) (x y : V), v = .ref T ∧ N.lookup T = some (.tup [x, y]) ∧ xs[j]? = some x ∧ ys[j]? = some y
def tLzip (K : PySem.W.Frag) (ta : TA) : TE := fun σ H Q => ta σ H fun vs H1 => ∃ a b xs ys, vs = [.ref a, .ref b] ∧ SqT K H1 a xs ∧ SqT K H1 b ys ∧ ∀ N L zs, ZipNew H1 xs ys N L zs → Q (.ref L) (upd (ups H1 N) L (.lst zs))
theorem lookup_map_at {β : Type} : ∀ {l : List (Addr × β)} {a : Addr} {b : β}, (a, b) ∈ l → ∃ b', l.lookup a = some b' ∧ (a, b') ∈ l
  | (k, v) :: r, a, b, h => by
    rw [List.lookup_cons]
    cases e : a == k with
    | true =>
      have e' : a = k := eq_of_beq e
      subst e'
      exact ⟨v, rfl, List.mem_cons_self⟩
    | false =>
      rcases List.mem_cons.mp h with q | q
      · cases q; simp at e
      · obtain ⟨b', h1, h2⟩ := lookup_map_at q
        exact ⟨b', h1, List.mem_cons_of_mem _ h2⟩
theorem lookup_mem' {β : Type} : ∀ {l : List (Addr × β)} {a : Addr} {b : β}, l.lookup a = some b → (a, b) ∈ l
  | (k, v) :: r, a, b, h => by
    rw [List.lookup_cons] at h
    cases e : a == k with
    | true =>
      rw [e] at h
      cases h
      have e' : a = k := eq_of_beq e
      subst e'
      exact List.mem_cons_self
    | false =>
      rw [e] at h
      exact List.mem_cons_of_mem _ (lookup_mem' h)
theorem pe_lzip {X : Cx} {e1 e2 : Expr} {ta : TA} {p p2 q pos : Pos} (hc : X.calm = true) (hg : Gl X "list") (hm : X.mg "list" = none) (hg2 : Gl X "zip") (hm2 : X.mg "zip" = none) (ha : PA X [e1, e2] ta)
    (hs : starEach [e1, e2] X.env = (false, eval e1 X.env) :: starEach [e2] X.env) (hpl : (backTo q (starEach [e2] X.env)).any (·.1) = false) :
    PE X (.Call (.Name "list" p) [.Call (.Name "zip" p2) [e1, e2] [] q] [] pos) (tLzip X.K ta) := by
  refine ⟨fun pins s σ H Q I h => ?_⟩
  refine Call_ (ld_blt I hg hm boot_list ?_)
  refine PyProof.Rows.callWith_type1 (PyProof.Rows.args_cons ?_ rfl) rfl rfl
  refine Call_ (ld_blt I hg2 hm2 PyProof.Rows.boot_zip (PyProof.Rows.callWith_type1 (thn (ha.run q pins s σ H _ I h) fun us s1 ⟨vs, H1, I1, r1, q1⟩ => ?_) hs hpl))
  obtain ⟨a, b, xs, ys, rfl, hqx, hqy, q1⟩ := q1
  cases r1 with
  | cons r rr =>
  cases rr with
  | cons r' rr =>
  cases rr
  cases r
  cases r'
  obtain ⟨its, rv, p1, hz1⟩ := I1.tuple hqx
  obtain ⟨its2, rv2, p2', hz2⟩ := I1.tuple hqy
  obtain ⟨o1, ho1, _⟩ := id p1
  obtain ⟨o2, ho2, _⟩ := id p2'
  refine RZ.call_zipT (show s1.heap.IsTuple a its.toArray from p1) (show s1.heap.IsTuple b its2.toArray from p2') fun h' hz hTI hTO h1 h2 hsz hk => ?_
  refine PyProof.Rows.args_nil ?_
  have D := PySem.W.ktu_apart s1.heap.objs.size a b (Heap.lt_size ho1) (Heap.lt_size ho2)
  have l1 := rv.length
  have l2 := rv2.length
  have St : ZipSt h' (s1.heap.objs.size + 4) (s1.heap.objs.size + 2) (s1.heap.objs.size + 3) s1.heap.objs.size (s1.heap.objs.size + 1) a b its.toArray its2.toArray 0 :=
    ⟨hTI, h1, h2, Heap.IsTuple.at (show s1.heap.IsTuple a its.toArray from p1) fun o e => hk _ o e, Heap.IsTuple.at (show s1.heap.IsTuple b its2.toArray from p2') fun o e => hk _ o e⟩
  refine call_list_zip (s := { s1 with heap := h' }) (n := min xs.length ys.length) (I1.ok.hd hc) D (by omega) (fun i hi => ?_) ?_ hz hTO St fun h3 acc c hk3 hL hsz3 P3 => ?_
  · have a1 : i < its.length := by omega
    have a2 : i < its2.length := by omega
    exact ⟨its[i], its2[i], by simp [a1], by simp [a2]⟩
  · rcases Nat.le_total xs.length ys.length with z | z
    · exact .inl (by simp; omega)
    · exact .inr (by simp; omega)
  -- the abstract side
  generalize hLs : h'.objs.size = L at hL P3 ⊢
  have kept : ∀ b o, s1.heap.get? b = some o → h3.get? b = some o := fun b o e => hk3 b o (fun hb => by
    have hlt := Heap.lt_size e
    have e' : b = s1.heap.objs.size + 4 ∨ b = s1.heap.objs.size + 3 ∨ b = s1.heap.objs.size ∨ b = s1.heap.objs.size + 1 := by simpa using hb
    rcases e' with q | q | q | q <;> (rw [q] at hlt; exact absurd hlt (Nat.not_lt.mpr (by first | exact Nat.le_add_right _ _ | exact Nat.le_refl _)))) (hk b o e)
  have hLge : s1.heap.objs.size ≤ L := by omega
  have items : ∀ (j : Nat) (hj : j < acc.size), ∃ (T : Addr) (x y : V) (u v : Value), acc[j] = .ref T ∧ L ≤ T ∧ T ≠ L ∧ IsPair h3 T u v ∧ RelV x u ∧ RelV y v ∧ xs[j]? = some x ∧ ys[j]? = some y := fun j hj => by
    obtain ⟨T, u, v, e1, ⟨e2, e2'⟩, e3, e4, e5⟩ := P3 j acc[j] (by simp [hj])
    have hjm : j < min xs.length ys.length := by rw [← hsz3]; exact hj
    have a1 : j < xs.length := by omega
    have a2 : j < ys.length := by omega
    obtain ⟨u', h1', r1'⟩ := rv.get (x := xs[j]) (List.getElem?_eq_getElem a1)
    obtain ⟨v', h2', r2'⟩ := rv2.get (x := ys[j]) (List.getElem?_eq_getElem a2)
    have eu : u' = u := by
      have : its[j]? = some u := by simpa using e4
      rw [h1'] at this; exact Option.some.inj this
    have ev : v' = v := by
      have : its2[j]? = some v := by simpa using e5
      rw [h2'] at this; exact Option.some.inj this
    subst eu ev
    exact ⟨T, xs[j], ys[j], u', v', e1, e2', fun z => e2 (by simp [z]), e3, r1', r2', List.getElem?_eq_getElem a1, List.getElem?_eq_getElem a2⟩
  -- the new tuples
  have mk : ∀ (k : Nat), k ≤ acc.size → ∃ (N : List (Addr × HO)) (zs : List V), zs.length = k ∧ Vals zs (acc.toList.take k) ∧
      (∀ a o, (a, o) ∈ N → ∃ (x y : V) (u v : Value), o = .tup [x, y] ∧ L ≤ a ∧ a ≠ L ∧ IsPair h3 a u v ∧ RelV x u ∧ RelV y v) ∧
      ∀ (j : Nat) (v : V), zs[j]? = some v → ∃ (T : Addr) (x y : V), v = .ref T ∧ (T, HO.tup [x, y]) ∈ N ∧ xs[j]? = some x ∧ ys[j]? = some y := by
    intro k
    induction k with
    | zero => intro _; exact ⟨[], [], rfl, by rw [List.take_zero]; exact .nil, fun a o h => by simp at h, fun j v h => by simp at h⟩
    | succ k ih =>
      intro hk'
      obtain ⟨N, zs, z1, z2, z3, z4⟩ := ih (by omega)
      obtain ⟨T, x, y, u, v, e1, e2, e3, e4, e5, e6, e7, e8⟩ := items k (by omega)
      refine ⟨(T, .tup [x, y]) :: N, zs ++ [.ref T], by rw [List.length_append, z1]; rfl, ?_, fun a o hm => ?_, fun j w hj => ?_⟩
      · have : acc.toList.take (k + 1) = acc.toList.take k ++ [.ref T] := by
          rw [List.take_add_one]
          have hk2 : k < acc.size := by omega
          have : acc.toList[k]? = some (.ref T) := by rw [Array.getElem?_toList, Array.getElem?_eq_getElem hk2, e1]
          rw [this]
          rfl
        rw [this]
        exact z2.append (.cons rfl .nil)
      · rcases List.mem_cons.mp hm with hm | hm
        · cases hm; exact ⟨x, y, u, v, rfl, e2, e3, e4, e5, e6⟩
        · exact z3 a o hm
      · by_cases hjk : j < zs.length
        · rw [List.getElem?_append_left hjk] at hj
          obtain ⟨T', x', y', f1, f2, f3⟩ := z4 j w hj
          exact ⟨T', x', y', f1, List.mem_cons_of_mem _ f2, f3⟩
        · rw [List.getElem?_append_right (by omega)] at hj
          cases ej : j - zs.length with
          | succ m => rw [ej] at hj; simp at hj
          | zero =>
            rw [ej] at hj
            have hj' : w = .ref T := by simpa using hj.symm
            have : j = k := by omega
            subst this
            exact ⟨T, x, y, hj', List.mem_cons_self, e7, e8⟩
  obtain ⟨N, zs, z1, z2, z3, z4⟩ := mk acc.size (Nat.le_refl _)
  have z2' : Vals zs acc.toList := by
    rw [List.take_of_length_le (by simp)] at z2
    exact z2
  have fr : ∀ a, s1.heap.objs.size ≤ a → H1 a = none := fun a ha => I1.hok.fresh ha
  have uniqN : ∀ {T : Addr} {x y : V}, (T, HO.tup [x, y]) ∈ N → N.lookup T = some (.tup [x, y]) := fun {T x y} hm => by
    obtain ⟨o, h1', h2'⟩ := lookup_map_at hm
    obtain ⟨x1, y1, u1, v1, q1', q2', q3', q4', q5', q6'⟩ := z3 _ _ hm
    obtain ⟨x2, y2, u2, v2, p1'', p2'', p3'', p4'', p5'', p6''⟩ := z3 _ _ h2'
    cases q1'
    subst p1''
    have q4' : h3.get? T = _ := q4'
    have p4'' : h3.get? T = _ := p4''
    rw [q4'] at p4''
    injection p4'' with p4''
    injection p4'' with _ _ p4'' _
    injection p4'' with p4'' _
    have pl := congrArg Array.toList p4''
    simp at pl
    obtain ⟨pa, pb⟩ := pl
    subst pa pb
    rw [q5'.inj p5'', q6'.inj p6'', h1']
  have newN : ∀ a o, N.lookup a = some o → ∃ (x y : V) (u v : Value), o = .tup [x, y] ∧ L ≤ a ∧ a ≠ L ∧ IsPair h3 a u v ∧ RelV x u ∧ RelV y v := fun a o e => z3 a o (lookup_mem' e)
  have hLN : N.lookup L = none := by
    cases e : N.lookup L with
    | none => rfl
    | some o =>
      obtain ⟨_, _, _, _, _, _, n, _⟩ := newN L o e
      exact absurd rfl n
  have fin := q1 N L zs ⟨fun a o e => by
      obtain ⟨x, y, u, v, f1, f2, f3, f4⟩ := newN a o e
      exact ⟨fr a (by omega), x, y, f1⟩, fr L hLge, hLN, by rw [z1, hsz3], fun j v hj => by
      obtain ⟨T, x, y, f1, f2, f3⟩ := z4 j v hj
      exact ⟨T, x, y, f1, uniqN f2, f3⟩⟩
  refine ⟨.ref L, _, ?_, rfl, fin⟩
  show L2.Inv X pins σ (upd (ups H1 N) L (.lst zs)) { s1 with heap := h3, toks := s1.toks }
  refine Inv.lays (h' := h3) (t' := s1.toks) I1 kept (fun b o e => ?_) (fun b o e => ?_) fun b o e en => ?_
  · have hbL : b ≠ L := fun z => by rw [z, fr L hLge] at e; cases e
    rw [upd_ne hbL]
    exact ups_old (fun a o e => by obtain ⟨_, _, _, _, _, f2, _⟩ := newN a o e; exact fr a (by omega)) e
  · by_cases hbL : b = L
    · exact .inr (by rw [hbL]; exact hLge)
    · rw [upd_ne hbL] at e
      cases eN : N.lookup b with
      | none => rw [ups_none eN] at e; exact .inl e
      | some u =>
        obtain ⟨_, _, _, _, _, f2, _⟩ := newN b u eN
        exact .inr (by omega)
  · by_cases hbL : b = L
    · subst hbL
      rw [upd_same] at e
      cases e
      exact ⟨by rw [z1, hsz3]; omega, acc.toList, c, z2', by simpa using hL⟩
    · rw [upd_ne hbL] at e
      cases eN : N.lookup b with
      | none => rw [ups_none eN, en] at e; cases e
      | some u =>
        rw [ups_some eN] at e
        cases e
        obtain ⟨x, y, u', v', f1, f2, f3, f4, f5, f6⟩ := newN b _ eN
        subst f1
        exact ⟨by show 2 ≤ sizeLine; decide, [u', v'], .cons f5 (.cons f6 .nil), ⟨_, f4, rfl, _, rfl⟩⟩
end LR

set_option Elab.async false
set_option linter.all false
set_option maxRecDepth 100000
set_option maxHeartbeats 4000000
namespace LR
open PySem PySem.Spec PyProof.Rows L2
/-! ### len(set(t)) of a tuple of ints -/
theorem uniq_mem : ∀ {l : List Int} {x : Int}, x ∈ uniq l ↔ x ∈ l
  | [], _ => Iff.rfl
  | i :: l, x => by
    rw [uniq]
    split
    · rename_i h
      rw [uniq_mem, List.mem_cons]
      constructor
      · exact .inr
      · rintro (rfl | h')
        · exact h
        · exact h'
    · rw [List.mem_cons, List.mem_cons, uniq_mem]
theorem uniq_nodup : ∀ (l : List Int), (uniq l).Nodup
  | [] => by simp [uniq]
  | i :: l => by
    rw [uniq]
    split
    · exact uniq_nodup l
    · rename_i h
      exact List.nodup_cons.mpr ⟨fun hm => h (uniq_mem.mp hm), uniq_nodup l⟩
theorem uniq_met (ns : List Int) : (firstMet (fun i => ns.getD i 0) ns.length).length = (uniq ns).length := by
  have e : (List.range ns.length).map (fun i => ns.getD i 0) = ns := by
    apply List.ext_getElem
    · rw [List.length_map, List.length_range]
    · intro i h1 h2
      rw [List.getElem_map, List.getElem_range, List.getD_eq_getElem?_getD, List.getElem?_eq_getElem h2]
      rfl
  have key : ∀ (l ks : List Int), ks.Nodup → (l.foldl step_dedup ks).Nodup ∧ ∀ x, x ∈ l.foldl step_dedup ks ↔ x ∈ ks ∨ x ∈ l := by
    intro l
    induction l with
    | nil => intro ks h; exact ⟨h, fun x => by simp⟩
    | cons a l ih =>
      intro ks h
      have hs : (step_dedup ks a).Nodup ∧ ∀ x, x ∈ step_dedup ks a ↔ x ∈ ks ∨ x = a := by
        unfold step_dedup
        by_cases hm : a ∈ ks
        · rw [if_pos (List.any_eq_true.mpr ⟨a, hm, by simp⟩)]
          exact ⟨h, fun x => ⟨.inl, fun hx => hx.elim id fun e => e ▸ hm⟩⟩
        · rw [if_neg (fun hc => by
            obtain ⟨y, hy, e⟩ := List.any_eq_true.mp hc
            exact hm (by rw [← beq_iff_eq.mp e]; exact hy))]
          refine ⟨?_, fun x => by rw [List.mem_append, List.mem_singleton]⟩
          rw [List.nodup_append]
          refine ⟨h, List.nodup_cons.mpr ⟨List.not_mem_nil, List.nodup_nil⟩, fun x hx y hy e => ?_⟩
          rw [List.mem_singleton.mp hy] at e
          exact hm (e ▸ hx)
      obtain ⟨h1, h2⟩ := ih _ hs.1
      refine ⟨h1, fun x => ?_⟩
      rw [List.foldl_cons, h2, hs.2, List.mem_cons, or_assoc]
  unfold firstMet
  rw [e]
  obtain ⟨h1, h2⟩ := key ns [] List.nodup_nil
  have hp : (ns.foldl step_dedup []).Perm (uniq ns) := (List.perm_ext_iff_of_nodup h1 (uniq_nodup ns)).mpr fun k => by
    rw [h2, uniq_mem]
    simp
  exact hp.length_eq
def tLset (K : PySem.W.Frag) (ta : TE) : TE := fun σ H Q => ta σ H fun x H1 => ∃ (l : Addr) (ns : List Int), x = .ref l ∧ (SqL K H1 l (ns.map V.int) ∨ SqT K H1 l (ns.map V.int)) ∧ ns.length ≤ 1000 ∧ Q (.int ((uniq ns).length : Nat)) H1
theorem pe_lset {X : Cx} {a : Expr} {ta : TE} {p p2 q pos : Pos} (hg : Gl X "len") (hm : X.mg "len" = none) (hg2 : Gl X "set") (hm2 : X.mg "set" = none) (ha : PE X a ta) (hc : X.calm = true)
    (na : starEach [a] X.env = (false, eval a X.env) :: starEach [] X.env) : PE X (.Call (.Name "len" p) [.Call (.Name "set" p2) [a] [] q] [] pos) (tLset X.K ta) := by
  refine ⟨fun pins s σ H Q I h => ?_⟩
  refine Call_ (ld_blt I hg hm boot_len ?_)
  refine PyProof.Rows.callWith_builtin1 (PyProof.Rows.args_cons ?_ rfl) rfl rfl
  refine Call_ (ld_blt I hg2 hm2 boot_set ?_)
  refine PyProof.Rows.callWith_type1 (PyProof.Rows.args_cons (thn (ha.run pins s σ H _ I h) fun v s1 ⟨x, H1, I1, r1, q1⟩ => PyProof.Rows.args_nil ?_) na) na rfl
  obtain ⟨l, ns, rfl, hq, hl, q1⟩ := q1
  cases r1
  rcases hq with hq | hq
  · obtain ⟨its, r, pl, hz⟩ := I1.list hq
    have hlen : its.toArray.size = ns.length := by
      have := r.length
      rw [List.length_map] at this
      rw [List.size_toArray]
      exact this.symm
    refine PySem.call_set_list (ns := ns) (I1.ok.hd hc) pl.isList (by simpa using RZ.intsAre_vals r) (by rw [hlen]; unfold scanBound; omega) fun h' tk hS hk => ?_
    refine PyProof.Rows.args_nil ?_
    rw [hlen, uniq_met] at hS
    obtain ⟨o, es, ep, t, ho, hex, hd, _, _, hb, hf, hn⟩ := hS
    have I2 : Inv X pins σ H1 { s1 with heap := h', toks := tk } := I1.kept fun b o e => hk b o (Heap.lt_size e) e
    refine call_len_set ho hex hd hf ?_ ⟨.int ((uniq ns).length : Nat), H1, I2.tok _, ⟨_, by rw [hn]⟩, q1⟩
    have : es.size < scanBound := hb
    unfold scanBound at this
    omega
  · obtain ⟨its, r, pl, hz⟩ := I1.tuple hq
    refine L2.call_set_tupI ns (I1.ok.hd hc) (show s1.heap.IsTuple l its.toArray from pl) (by simpa using RZ.intsAre_vals r) (by unfold scanBound; omega) fun h' tk c hS hcl hk => ?_
    refine PyProof.Rows.args_nil ?_
    obtain ⟨o, es, ep, t, ho, hex, hd, _, hnd, hmem, hb, hf, hn, _⟩ := hS
    have I2 : Inv X pins σ H1 { s1 with heap := h', toks := tk } := I1.kept fun b o e => hk b o e
    have hlen : es.size = (uniq ns).length := by
      have hp : (es.toList.map keyOf).Perm (uniq ns) := (List.perm_ext_iff_of_nodup hnd (uniq_nodup ns)).mpr fun k => by
        rw [← hmem k, decide_eq_true_eq, uniq_mem]
      have := hp.length_eq
      simpa using this
    refine call_len_set ho hex hd hf ?_ ⟨.int ((uniq ns).length : Nat), H1, I2.tok _, ⟨_, by rw [hlen]⟩, q1⟩
    have : es.size < scanBound := hb
    unfold scanBound at this
    omega
/-! ### sum, min, max of a tuple of ints -/
def rSumT (K : PySem.W.Frag) : List V → Hp → VK → Prop := fun vs H Q => ∃ (a : Addr) (ns : List Int), vs = [V.ref a] ∧ SqT K H a (ns.map V.int) ∧ Q (.int ns.sum) H
theorem preSum_take (val : Nat → Int) (ns : List Int) (h : ∀ i, i < ns.length → val i = ns.getD i 0) : ∀ n, n ≤ ns.length → preSum val n = (ns.take n).sum
  | 0, _ => by simp [preSum]
  | n + 1, hn => by
    have ih := preSum_take val ns h n (by omega)
    have e : preSum val (n + 1) = preSum val n + val n := rfl
    rw [e, ih, List.take_add_one, h n (by omega)]
    have hlt : n < ns.length := by omega
    rw [List.getElem?_eq_getElem hlt, List.sum_append, List.getD_eq_getElem?_getD, List.getElem?_eq_getElem hlt]
    simp
theorem cr_sumT {X : Cx} (hc : X.calm = true) : CallR X (.builtin "sum") (rSumT X.K) := by
  intro pins s σ H vs us Q I r h
  obtain ⟨a, ns, rfl, hs, q⟩ := h
  obtain ⟨its, rv, ht, hz⟩ := I.tuple hs
  rw [Vals.ref1 r]
  have hlen := rv.length
  rw [List.length_map] at hlen
  obtain ⟨o, ho, _⟩ := id ht
  have hlt : a < s.heap.objs.size := Heap.lt_size ho
  refine call_sum_walkG (wpAny_pyIter_tuple (show s.heap.IsTuple a its.toArray from ht) ?_)
  refine ⟨_, _, _, _, _, _, fun i => ns.getD i 0, rfl, Walks.tuple (A := X.A.in1) (I.ok.hd hc) _ a (Nat.ne_of_lt hlt) its.toArray, ⟨⟨_, Heap.get?_push_size _ rfl, rfl, rfl⟩, Heap.IsTuple.push ht _⟩, fun b hb => ?_, fun i v e => ?_, fun h' tk t' hk => ?_⟩
  · show b < (s.heap.push _).objs.size
    rw [Heap.size_push]
    rcases List.mem_cons.mp hb with rfl | hb
    · exact Nat.lt_succ_self _
    · rcases List.mem_cons.mp hb with rfl | hb
      · exact Nat.lt_succ_of_lt hlt
      · cases hb
  · have e : its[i]? = some v := by simpa using e
    have hi : i < ns.length := by rw [hlen]; exact (List.getElem?_eq_some_iff.mp e).1
    obtain ⟨u, h1, h2⟩ := rv.get (i := i) (x := .int ns[i]) (by rw [List.getElem?_map, List.getElem?_eq_getElem hi]; rfl)
    rw [e] at h1
    cases h1
    obtain ⟨t, rfl⟩ := h2
    refine ⟨t, ?_⟩
    simp [List.getD_eq_getElem?_getD, List.getElem?_eq_getElem hi]
  · have e : preSum (fun i => ns.getD i 0) its.toArray.size = ns.sum := by
      rw [preSum_take _ ns (fun _ _ => rfl) _ (by simp; omega)]
      rw [List.take_of_length_le (by simp; omega)]
    rw [e]
    refine ⟨.int ns.sum, H, I.kept (t' := tk) fun b o eo => ?_, ⟨_, rfl⟩, q⟩
    exact hk b o (fun hb => absurd (Heap.lt_size eo) (by rw [List.mem_singleton.mp hb]; exact Nat.lt_irrefl _)) (Heap.get?_push_of_some _ eo)
theorem reads_ints {h : Heap} : ∀ {ns : List Int} {us : List Value}, Vals (ns.map V.int) us → ∃ as, ReadsAll h us (ns.map PyData.int) as
  | [], _, .nil => ⟨_, .nil⟩
  | n :: ns, _, .cons r t => by
    obtain ⟨k, rfl⟩ := r
    obtain ⟨as, h1⟩ := reads_ints t
    exact ⟨_, .cons (.int n k) h1⟩
theorem alike_ints (ns : List Int) : PySem.W.AlikeAll (ns.map PyData.int) := by
  refine ⟨fun x hx y hy => ?_, fun x hx => ?_⟩
  · obtain ⟨i, _, rfl⟩ := List.mem_map.mp hx
    obtain ⟨j, _, rfl⟩ := List.mem_map.mp hy
    rfl
  · obtain ⟨i, _, rfl⟩ := List.mem_map.mp hx
    intro h; cases h
theorem depth_ints : ∀ (ns : List Int), PyData.depthAll (ns.map PyData.int) ≤ 1
  | [] => by simp [PyData.depthAll]
  | n :: ns => by
    rw [List.map_cons, PyData.depthAll, PyData.depth]
    exact Nat.max_le.mpr ⟨by omega, depth_ints ns⟩
theorem foldl_min (ns : List Int) : ∀ n, ns.foldl min n = ns.foldl (fun a b => if b < a then b else a) n := by
  induction ns with
  | nil => intro n; rfl
  | cons i l ih =>
    intro n
    rw [List.foldl_cons, List.foldl_cons, ih]
    congr 1
    split <;> omega
theorem foldl_max (ns : List Int) : ∀ n, ns.foldl max n = ns.foldl (fun a b => if a < b then b else a) n := by
  induction ns with
  | nil => intro n; rfl
  | cons i l ih =>
    intro n
    rw [List.foldl_cons, List.foldl_cons, ih]
    congr 1
    split <;> omega
def rMinT (K : PySem.W.Frag) : List V → Hp → VK → Prop := fun vs H Q => ∃ (a : Addr) (ns : List Int) (k : Int), vs = [V.ref a] ∧ SqT K H a (ns.map V.int) ∧ minL ns = some k ∧ Q (.int k) H
def rMaxT (K : PySem.W.Frag) : List V → Hp → VK → Prop := fun vs H Q => ∃ (a : Addr) (ns : List Int) (k : Int), vs = [V.ref a] ∧ SqT K H a (ns.map V.int) ∧ maxL ns = some k ∧ Q (.int k) H
theorem cr_minT {X : Cx} (hc : X.calm = true) (hu : X.A.units + 64 < cLine) : CallR X (.builtin "min") (rMinT X.K) := by
  intro pins s σ H vs us Q I r h
  obtain ⟨a, ns, k, rfl, hs, hk, q⟩ := h
  obtain ⟨its, rv, ht, hz⟩ := I.tuple hs
  rw [Vals.ref1 r]
  cases ns with
  | nil => cases hk
  | cons n ns =>
    cases hk
    obtain ⟨as, hr⟩ := reads_ints (h := s.heap) rv
    have hd := depth_ints (n :: ns)
    refine PySem.W.min_tuple_data (I.ok.hd hc) (show s.heap.IsTuple a its.toArray from ht) (by simpa using hr) (alike_ints (n :: ns)) (by rw [List.map_cons] at hd; omega) fun i v h' tk bs _ rd hk => ?_
    rw [PySem.W.minD_ints, foldl_min] at rd
    cases rd with
    | int _ t => exact ⟨.int _, H, I.kept (t' := tk) hk, ⟨t, rfl⟩, q⟩
theorem cr_maxT {X : Cx} (hc : X.calm = true) (hu : X.A.units + 64 < cLine) : CallR X (.builtin "max") (rMaxT X.K) := by
  intro pins s σ H vs us Q I r h
  obtain ⟨a, ns, k, rfl, hs, hk, q⟩ := h
  obtain ⟨its, rv, ht, hz⟩ := I.tuple hs
  rw [Vals.ref1 r]
  cases ns with
  | nil => cases hk
  | cons n ns =>
    cases hk
    obtain ⟨as, hr⟩ := reads_ints (h := s.heap) rv
    have hd := depth_ints (n :: ns)
    refine PySem.W.max_tuple_data (I.ok.hd hc) (show s.heap.IsTuple a its.toArray from ht) (by simpa using hr) (alike_ints (n :: ns)) (by rw [List.map_cons] at hd; omega) fun i v h' tk bs _ rd hk => ?_
    rw [PySem.W.maxD_ints, foldl_max] at rd
    cases rd with
    | int _ t => exact ⟨.int _, H, I.kept (t' := tk) hk, ⟨t, rfl⟩, q⟩
/-! ### the three, of ints, a list, a tuple -/
section
variable {K : PySem.W.Frag} {cn : Cn}
def rMinA (K : PySem.W.Frag) : List V → Hp → VK → Prop := fun xs H Q => (∃ i j, xs = [.int i, .int j] ∧ Q (.int (if j < i then j else i)) H) ∨ rMin K xs H Q ∨ rMinT K xs H Q
def rMaxA (K : PySem.W.Frag) : List V → Hp → VK → Prop := fun xs H Q => (∃ i j, xs = [.int i, .int j] ∧ Q (.int (if j > i then j else i)) H) ∨ rMax K xs H Q ∨ rMaxT K xs H Q
def rSumA (K : PySem.W.Frag) : List V → Hp → VK → Prop := fun xs H Q => rSum K xs H Q ∨ rSumT K xs H Q
theorem cr_minA {X : Cx} (hc : X.calm = true) (hu : X.A.units + 64 < cLine) : CallR X (.builtin "min") (rMinA X.K) := (call_min2 hc).or ((cr_min hc).or (cr_minT hc hu))
theorem cr_maxA {X : Cx} (hc : X.calm = true) (hu : X.A.units + 64 < cLine) : CallR X (.builtin "max") (rMaxA X.K) := (call_max2 hc).or ((cr_max hc).or (cr_maxT hc hu))
theorem cr_sumA {X : Cx} (hc : X.calm = true) : CallR X (.builtin "sum") (rSumA X.K) := (cr_sum hc).or (cr_sumT hc)
theorem bis_min : BiS K cn .min (rMinA K) := by
  intro w xs ds d Q rm r hd q
  simp only [semBi] at hd
  unfold bMin at hd
  split at hd
  · cases hd
    obtain ⟨v, v', rfl, rv, rv'⟩ := r.two
    cases rv
    cases rv'
    exact .inl ⟨_, _, rfl, (Rv.int _).same rm q⟩
  · obtain ⟨l, hl, hd⟩ := Option.bind_eq_some_iff.mp hd
    obtain ⟨ns, hn, hd⟩ := Option.bind_eq_some_iff.mp hd
    obtain ⟨k, hk, rfl⟩ := Option.map_eq_some_iff.mp hd
    obtain ⟨v, rfl, rv⟩ := r.one
    have e := ints_map hn
    subst e
    cases rv with
    | tup f rvs =>
      cases hl
      have e := rvs.ints
      subst e
      exact .inr (.inr ⟨_, ns, k, rfl, f.sq, hk, (Rv.int _).same rm q⟩)
    | lst f rvs =>
      cases hl
      have e := rvs.ints
      subst e
      obtain ⟨h1, h2⟩ := minL_is hk
      exact .inr (.inl ⟨_, ns, rfl, f.sq, h1, fun m hm hle => by rw [h2 m hm hle]; exact (Rv.int _).same rm q⟩)
    | _ => cases hl
  · cases hd
theorem bis_max : BiS K cn .max (rMaxA K) := by
  intro w xs ds d Q rm r hd q
  simp only [semBi] at hd
  unfold bMax at hd
  split at hd
  · cases hd
    obtain ⟨v, v', rfl, rv, rv'⟩ := r.two
    cases rv
    cases rv'
    exact .inl ⟨_, _, rfl, (Rv.int _).same rm q⟩
  · obtain ⟨l, hl, hd⟩ := Option.bind_eq_some_iff.mp hd
    obtain ⟨ns, hn, hd⟩ := Option.bind_eq_some_iff.mp hd
    obtain ⟨k, hk, rfl⟩ := Option.map_eq_some_iff.mp hd
    obtain ⟨v, rfl, rv⟩ := r.one
    have e := ints_map hn
    subst e
    cases rv with
    | tup f rvs =>
      cases hl
      have e := rvs.ints
      subst e
      exact .inr (.inr ⟨_, ns, k, rfl, f.sq, hk, (Rv.int _).same rm q⟩)
    | lst f rvs =>
      cases hl
      have e := rvs.ints
      subst e
      obtain ⟨h1, h2⟩ := maxL_is hk
      exact .inr (.inl ⟨_, ns, rfl, f.sq, h1, fun m hm hle => by rw [h2 m hm hle]; exact (Rv.int _).same rm q⟩)
    | _ => cases hl
  · cases hd
theorem bis_sum : BiS K cn .sum (rSumA K) := by
  intro w xs ds d Q rm r hd q
  simp only [semBi] at hd
  unfold bSum at hd
  split at hd
  · obtain ⟨l, hl, hd⟩ := Option.bind_eq_some_iff.mp hd
    obtain ⟨ns, hn, rfl⟩ := Option.map_eq_some_iff.mp hd
    obtain ⟨v, rfl, rv⟩ := r.one
    have e := ints_map hn
    subst e
    cases rv with
    | tup f rvs =>
      cases hl
      have e := rvs.ints
      subst e
      exact .inr ⟨_, ns, rfl, f.sq, (Rv.int _).same rm q⟩
    | lst f rvs =>
      cases hl
      have e := rvs.ints
      subst e
      exact .inl ⟨_, ns, rfl, f.sq, (Rv.int _).same rm q⟩
    | scr f rvs =>
      cases hl
      have e := rvs.ints
      subst e
      exact .inl ⟨_, ns, rfl, f.sq, (Rv.int _).same rm q⟩
    | _ => cases hl
  · cases hd
end
end LR

set_option Elab.async false
set_option linter.all false
set_option maxRecDepth 100000
set_option maxHeartbeats 4000000
namespace LR
open PySem PySem.Spec PyProof.Rows L2
/-! ### t[::-1] of a tuple -/
section
variable {prog : Program} {w : World} {A : Around} {E : Value → Shared → Prop} {s : Shared}
theorem places_rev (n : Nat) : Builtin.Slice.slicePlaces ((n : Int) - 1) (-1) (-1) = n := by
  unfold Builtin.Slice.slicePlaces
  have h1 : ¬ ((-1 : Int) > 0) := by omega
  simp only [h1, if_false, show (-(-1 : Int)) = 1 from rfl, Int.ediv_one]
  split <;> omega
theorem sliceApplied_rev {sl : Addr} {vl vu vs : Value} {n : Nat} {Q : Int × Int × Nat → Shared → Prop} (hs : s.heap.IsSliceOf sl vl vu vs) (pl : IsPart vl none) (pu : IsPart vu none) (ps : IsPart vs (some (-1)))
    (h : Q ((n : Int) - 1, -1, n) s) : wpAny (model prog w) A (Builtin.Slice.sliceApplied (.ref sl) (pure (n : Int))) Q E s := by
  obtain ⟨os, hos, hcs, hds⟩ := id hs
  unfold Builtin.Slice.sliceApplied Builtin.Slice.sliceFields
  refine wpAny_bind (wpAny_bind (wpAny_field hos hds (x := vl) rfl (wpAny_bind (wpAny_field hos hds (x := vu) rfl (wpAny_bind (wpAny_field hos hds (x := vs) rfl (wpAny_pure ?_)))))))
  refine wpAny_bind (HT.slicePart_ ps ?_)
  show wpAny _ _ (if ((-1 : Int) == 0) = true then _ else _) _ _ s
  rw [if_neg (by decide)]
  refine wpAny_bind (HT.slicePart_ pl (wpAny_bind (HT.slicePart_ pu (wpAny_bind (wpAny_pure ?_)))))
  show wpAny _ _ (match Builtin.Slice.sliceAdjust none none (-1) (n : Int) with | (lo, hi) => pure (lo, (-1 : Int), Builtin.Slice.slicePlaces lo hi (-1))) _ _ s
  have e : Builtin.Slice.sliceAdjust none none (-1) (n : Int) = ((n : Int) - 1, -1) := rfl
  rw [e]
  show wpAny _ _ (pure ((n : Int) - 1, (-1 : Int), Builtin.Slice.slicePlaces ((n : Int) - 1) (-1) (-1))) _ _ s
  rw [places_rev]
  exact wpAny_pure h
theorem pick_rev (xs : Array Value) : ((List.range xs.size).filterMap fun (m : Nat) => xs[(((xs.size : Nat) : Int) - 1 + (m : Int) * (-1)).toNat]?).toArray = xs.toList.reverse.toArray := by
  congr 1
  have e : ∀ (m : Nat), m < xs.size → (((xs.size : Nat) : Int) - 1 + (m : Int) * (-1)).toNat = xs.size - 1 - m := fun m hm => by omega
  refine List.ext_getElem? fun i => ?_
  have h : ((List.range xs.size).filterMap fun (m : Nat) => xs[(((xs.size : Nat) : Int) - 1 + (m : Int) * (-1)).toNat]?) = (List.range xs.size).map fun (m : Nat) => xs.getD (xs.size - 1 - m) .none := by
    have gen : ∀ (l : List Nat), (∀ m ∈ l, m < xs.size) → (l.filterMap fun (m : Nat) => xs[(((xs.size : Nat) : Int) - 1 + (m : Int) * (-1)).toNat]?) = l.map fun (m : Nat) => xs.getD (xs.size - 1 - m) .none := by
      intro l
      induction l with
      | nil => intro _; rfl
      | cons a l ih =>
        intro hl
        have ha := hl a List.mem_cons_self
        have e2 : xs[(((xs.size : Nat) : Int) - 1 + (a : Int) * (-1)).toNat]? = some (xs.getD (xs.size - 1 - a) .none) := by
          rw [e a ha, Array.getElem?_eq_getElem (by omega)]
          simp [Array.getD, show xs.size - 1 - a < xs.size by omega]
        rw [List.filterMap_cons, e2, List.map_cons, ih fun m hm => hl m (List.mem_cons_of_mem _ hm)]
    exact gen _ fun m hm => List.mem_range.mp hm
  rw [h, List.getElem?_map]
  by_cases hi : i < xs.size
  · rw [List.getElem?_range hi, List.getElem?_reverse (by simpa using hi)]
    simp [Array.getD, show xs.size - 1 - i < xs.size by omega]
  · rw [List.getElem?_eq_none (by simpa using hi), List.getElem?_eq_none (by simpa using hi)]
    rfl
theorem getItem_tuple_rev {t sl : Addr} {items : Array Value} {vl vu vs : Value} {Q : Value → Shared → Prop} (ht : IsTup s.heap t items) (hs : s.heap.IsSliceOf sl vl vu vs) (pl : IsPart vl none) (pu : IsPart vu none) (ps : IsPart vs (some (-1)))
    (h : Q (.ref s.heap.objs.size) { s with heap := s.heap.push { cls := .type "tuple", data := .seq items.toList.reverse.toArray } })
    (hsz : items.size ≤ sizeLine) : wpAny (model prog w) A (getItem (.ref t) (.ref sl)) Q E s := by
  have htake : sizeOk (.seq items.toList.reverse.toArray) := by
    show items.toList.reverse.toArray.size ≤ sizeLine
    rw [List.size_toArray, List.length_reverse, Array.length_toList]
    omega
  obtain ⟨os, hos, hcs, hds⟩ := id hs
  have hTs : s.TypeIs (.ref sl) "slice" := ⟨os, hos, hcs⟩
  unfold getItem
  try with_reducible refine wpAny_holding ?_
  first | refine wpAny_bind (wpAny_pure ?_) | skip
  refine wpAny_bind (wpAny_sequenceKey ht.typeIs (by decide) ?_)
  refine wpAny_bind (wpAny_callSpecial?_slot (name := Str.ofString "__getitem__") ht.typeIs PyProof.Rows.slot_tuple_getitem
    (wpAny_call_entry PyProof.Rows.slot_tuple_getitem ht.typeIs F.entry_tuple_getitem ?_ (PyProof.Rows.args_tuple_getitem _ _)))
  show wpAny _ _ (Builtin.Tuple.tupleItemsOf (.ref t) >>= _) _ _ s
  refine wpAny_bind (tupleItemsOf_ ht ?_)
  refine wpAny_bind (wpAny_typeOf hTs ?_)
  rw [if_pos (by decide)]
  refine wpAny_bind (sliceApplied_rev hs pl pu ps ?_)
  have hno : ¬ ((((items.size : Nat) : Int) - 1 == 0 && (-1 : Int) == 1 && items.size == items.size) = true) := by
    intro q
    rw [Bool.and_eq_true, Bool.and_eq_true] at q
    exact absurd q.1.2 (by decide)
  show wpAny _ _ (if (((items.size : Nat) : Int) - 1 == 0 && (-1 : Int) == 1 && items.size == items.size) = true then _ else _) _ _ s
  rw [if_neg hno, pick_rev]
  first
    | exact wpAny_bind (m := Builtin.Tuple.tupleExact _) (wpAny_newObj_type (wpAny_pure ⟨_, rfl, wpAny_pure h⟩) htake)
    | exact wpAny_bind (m := Builtin.Tuple.tupleExact _) (wpAny_newObj_type (wpAny_bind (wpAny_pure (wpAny_pure ⟨_, rfl, wpAny_pure h⟩))) htake)
    | exact wpAny_bind (wpAny_bind (m := Builtin.Tuple.tupleExact _) (wpAny_newObj_type (wpAny_pure (wpAny_pure ⟨_, rfl, wpAny_pure h⟩)) htake))
    | exact wpAny_bind (wpAny_bind (m := Builtin.Tuple.tupleExact _) (wpAny_newObj_type (wpAny_pure ⟨_, rfl, wpAny_pure h⟩) htake))
end
def tRevT (K : PySem.W.Frag) (te : TE) : TE := fun σ H Q => te σ H fun x H1 => ∃ a xs, x = .ref a ∧ SqT K H1 a xs ∧ ∀ p, H1 p = none → Q (.ref p) (upd H1 p (.tup xs.reverse))
theorem pe_revT {X : Cx} {e : Expr} {te : TE} {k : Nat} {p1 p2 p3 pos : Pos} (he : PE X e te) : PE X (.Subscript e (.Slice none none (some (.UnaryOp .USub (.Constant (.int 1) k p1) p2)) p3) pos) (tRevT X.K te) := by
  refine ⟨fun pins s σ H Q I h => ?_⟩
  refine Subscript_ (thn (he.run pins s σ H _ I h) fun v s1 ⟨x, H1, I1, r1, q1⟩ => ?_)
  obtain ⟨a, xs, ex, hx, q⟩ := q1
  subst ex
  cases r1
  have hst : PO X (some (.UnaryOp .USub (.Constant (.int 1) k p1) p2)) (tPart (tUn (rU fun i => .int (-i)) (tC (.int 1)))) := po_some (pe_un un_neg pe_int)
  refine wpAny_Slice (thn (po_none.run pins s1 σ H1 (fun o H2 => o = none ∧ H2 = H1) I1 ⟨rfl, rfl⟩) fun vl s2 ⟨l, H2, I2, pl, el, e2⟩ => ?_)
  subst el e2
  refine thn (po_none.run pins s2 σ H2 (fun o H3 => o = none ∧ H3 = H2) I2 ⟨rfl, rfl⟩) fun vu s3 ⟨u, H3, I3, pu, eu, e3⟩ => ?_
  subst eu e3
  refine thn (hst.run pins s3 σ H3 (fun o H4 => o = some (-1) ∧ H4 = H3) I3 ⟨1, rfl, -1, rfl, rfl, rfl⟩) fun vs s4 ⟨o, H4, I4, ps, eo, e4⟩ => ?_
  subst eo e4
  have I5 : Inv X pins σ H4 { s4 with heap := s4.heap.push { cls := .type "slice", data := .fields #[vl, vu, vs] } } := I4.kept (t' := s4.toks) fun b ob q => Heap.get?_push_of_some _ q
  obtain ⟨its, r, ht, hz⟩ := I5.tuple hx
  have hlen := r.length
  show wpAny (model X.prog X.w) X.A (subscriptTail e (.Slice none none (some (.UnaryOp .USub (.Constant (.int 1) k p1) p2)) p3) (.ref a) (.ref s4.heap.objs.size)) (EP X pins σ Q) X.xe { s4 with heap := s4.heap.push { cls := .type "slice", data := .fields #[vl, vu, vs] } }
  refine tail_any (ops := [.ref a, .ref s4.heap.objs.size]) ht.typeIs (PyProof.Rows.slot_tuple_getitem.lookup) ?_ (by with_unfolding_all rfl)
  refine getItem_tuple_rev ht (Heap.IsSliceOf.new _ vl vu vs) pl pu ps ?_ (by rw [List.size_toArray]; omega)
  refine ⟨.ref _, _, I5.laid (t' := s4.toks) (o := .tup xs.reverse) (fun b ob q => Heap.get?_push_of_some _ q) (Nat.le_refl _) ?_, rfl, q _ (I5.hok.fresh (Nat.le_refl _))⟩
  exact ⟨by rw [List.length_reverse]; exact hz, its.reverse, r.reverse, ⟨_, Heap.get?_push_size _ rfl, rfl, 0, rfl⟩⟩
/-! ### x[lo::2] of a list -/
theorem evry_get {α : Type} : ∀ (l : List α) (i : Nat), (evry l)[i]? = l[2 * i]?
  | [], i => by simp [evry]
  | [a], 0 => by simp [evry]
  | [a], i + 1 => by simp [evry]
  | a :: b :: l, 0 => by simp [evry]
  | a :: b :: l, i + 1 => by
    rw [evry, List.getElem?_cons_succ, evry_get l i, show 2 * (i + 1) = 2 * i + 2 by omega]
    rfl
theorem evry_len {α : Type} : ∀ (l : List α), (evry l).length = (l.length + 1) / 2
  | [] => by simp [evry]
  | [a] => by simp [evry]
  | a :: b :: l => by
    rw [evry, List.length_cons, evry_len l]
    simp only [List.length_cons]
    omega

theorem pick_two (items : Array Value) (i : Int) (hi : 0 ≤ i) : slicePick items (some i) none (some 2) = (evry (items.toList.drop i.toNat)).toArray := by
  have hb : sliceBounds (some i) none (some 2) items.size = (max 0 (min i (items.size : Int)), (items.size : Int), 2) := by
    unfold sliceBounds
    simp [show ¬ i < 0 by omega]
  unfold slicePick
  rw [hb]
  simp only
  congr 1
  generalize ha : max 0 (min i (items.size : Int)) = a
  have ha0 : 0 ≤ a ∧ a ≤ items.size := by omega
  obtain ⟨n, rfl⟩ : ∃ n : Nat, a = n := ⟨a.toNat, by omega⟩
  have hdrop : items.toList.drop i.toNat = items.toList.drop n := by
    by_cases h : i ≤ items.size
    · rw [show i.toNat = n by omega]
    · rw [List.drop_of_length_le (by simp; omega), List.drop_of_length_le (by simp; omega)]
  rw [hdrop]
  have hr : sliceRange (n : Int) (items.size : Int) 2 = (List.range ((items.size - n + 1) / 2)).map fun k => n + 2 * k := by
    unfold sliceRange
    simp only [show (2 : Int) > 0 by decide, if_true]
    have e : (if (n : Int) < (items.size : Int) then ((items.size : Int) - (n : Int) + 2 - 1) / 2 else 0).toNat = (items.size - n + 1) / 2 := by split <;> omega
    rw [e]
    refine List.map_congr_left fun k _ => ?_
    omega
  rw [hr]
  have gen : ∀ (l : List Nat), (∀ m ∈ l, m < items.size) → (l.filterMap fun (m : Nat) => items[m]?) = l.map fun (m : Nat) => items.getD m .none := by
    intro l
    induction l with
    | nil => intro _; rfl
    | cons a l ih =>
      intro hl
      have ha := hl a List.mem_cons_self
      have e2 : items[a]? = some (items.getD a .none) := by
        rw [Array.getElem?_eq_getElem ha]
        simp [Array.getD, ha]
      rw [List.filterMap_cons, e2, List.map_cons, ih fun m hm => hl m (List.mem_cons_of_mem _ hm)]
  rw [gen _ fun m hm => ?_]
  · refine List.ext_getElem? fun j => ?_
    rw [List.map_map, List.getElem?_map, evry_get, List.getElem?_drop]
    by_cases hj : j < (items.size - n + 1) / 2
    · rw [List.getElem?_range hj]
      have h1 : n + 2 * j < items.size := by omega
      rw [Array.getElem?_toList, Array.getElem?_eq_getElem h1]
      simp [Array.getD, h1]
    · rw [List.getElem?_eq_none (by simpa using hj), List.getElem?_eq_none (by rw [Array.length_toList]; omega)]
      rfl
  · obtain ⟨k, hk, rfl⟩ := List.mem_map.mp hm
    have := List.mem_range.mp hk
    omega
def tSl2 (K : PySem.W.Frag) (te tl : TE) : TE := fun σ H Q => te σ H fun x H1 => tl σ H1 fun y H2 => ∃ a xs i, x = .ref a ∧ y = .int i ∧ 0 ≤ i ∧ SqL K H2 a xs ∧ ∀ p, H2 p = none → Q (.ref p) (upd H2 p (.lst (evry (xs.drop i.toNat))))
theorem valsEvry : ∀ {xs : List V} {us : List Value}, Vals xs us → Vals (LR.evry xs) (LR.evry us)
  | _, _, .nil => by simp only [LR.evry]; exact .nil
  | _, _, .cons r .nil => by simp only [LR.evry]; exact .cons r .nil
  | _, _, .cons r (.cons _ t) => by simp only [LR.evry]; exact .cons r (valsEvry t)
theorem pe_sl2 {X : Cx} {e lo : Expr} {te tl : TE} {k : Nat} {p1 p3 pos : Pos} (he : PE X e te) (hl : PE X lo tl) : PE X (.Subscript e (.Slice (some lo) none (some (.Constant (.int 2) k p1)) p3) pos) (tSl2 X.K te tl) := by
  refine ⟨fun pins s σ H Q I h => ?_⟩
  refine Subscript_ (thn (he.run pins s σ H _ I h) fun v s1 ⟨x, H1, I1, r1, q1⟩ => ?_)
  have hst : PO X (some (.Constant (.int 2) k p1)) (tPart (tC (.int 2))) := po_some pe_int
  refine wpAny_Slice (thn ((po_some hl).run pins s1 σ H1 (fun o H2 => ∃ i, o = some i ∧ ∃ a xs, x = .ref a ∧ 0 ≤ i ∧ SqL X.K H2 a xs ∧ ∀ p, H2 p = none → Q (.ref p) (upd H2 p (.lst (evry (xs.drop i.toNat))))) I1 ?_) fun vl s2 ⟨l, H2, I2, pl, i, el, a, xs, ex, hi, hx, q⟩ => ?_)
  · have : tl σ H1 fun y H2 => ∃ i, y = V.int i ∧ (∃ i', some i = some i' ∧ ∃ a xs, x = .ref a ∧ 0 ≤ i' ∧ SqL X.K H2 a xs ∧ ∀ p, H2 p = none → Q (.ref p) (upd H2 p (.lst (evry (xs.drop i'.toNat))))) := by
      have hq : (fun y H2 => ∃ a xs i, x = V.ref a ∧ y = V.int i ∧ 0 ≤ i ∧ SqL X.K H2 a xs ∧ ∀ p, H2 p = none → Q (.ref p) (upd H2 p (.lst (evry (xs.drop i.toNat))))) = fun y H2 => ∃ i, y = V.int i ∧ (∃ i', some i = some i' ∧ ∃ a xs, x = .ref a ∧ 0 ≤ i' ∧ SqL X.K H2 a xs ∧ ∀ p, H2 p = none → Q (.ref p) (upd H2 p (.lst (evry (xs.drop i'.toNat))))) := by
        funext y H2
        refine propext ⟨fun ⟨a, xs, i, h1, h2, h3, h4⟩ => ⟨i, h2, i, rfl, a, xs, h1, h3, h4⟩, fun ⟨i, h2, i', h, a, xs, h1, h3, h4⟩ => ?_⟩
        cases h
        exact ⟨a, xs, i, h1, h2, h3, h4⟩
      rw [← hq]
      exact q1
    exact this
  subst el ex
  cases r1
  refine thn (po_none.run pins s2 σ H2 (fun o H3 => o = none ∧ H3 = H2) I2 ⟨rfl, rfl⟩) fun vu s3 ⟨u, H3, I3, pu, eu, e3⟩ => ?_
  subst eu e3
  refine thn (hst.run pins s3 σ H3 (fun o H4 => o = some 2 ∧ H4 = H3) I3 ⟨2, rfl, rfl, rfl⟩) fun vs s4 ⟨o, H4, I4, ps, eo, e4⟩ => ?_
  subst eo e4
  have I5 : Inv X pins σ H4 { s4 with heap := s4.heap.push { cls := .type "slice", data := .fields #[vl, vu, vs] } } := I4.kept (t' := s4.toks) fun b ob q => Heap.get?_push_of_some _ q
  obtain ⟨its, r, ht, hz⟩ := I5.list hx
  have hlen := r.length
  show wpAny (model X.prog X.w) X.A (subscriptTail e (.Slice (some lo) none (some (.Constant (.int 2) k p1)) p3) (.ref a) (.ref s4.heap.objs.size)) (EP X pins σ Q) X.xe { s4 with heap := s4.heap.push { cls := .type "slice", data := .fields #[vl, vu, vs] } }
  refine tail_any (ops := [.ref a, .ref s4.heap.objs.size]) ht.isList.typeIs (PySem.slot_list_getitem.lookup) ?_ (by with_unfolding_all rfl)
  refine wpAny_getItem_list_slice ht.isList (Heap.IsSliceOf.new _ vl vu vs) pl pu ps (by decide) ?_ (by rw [List.size_toArray]; omega)
  rw [pick_two _ _ hi]
  refine ⟨.ref _, _, I5.laid (t' := s4.toks) (o := .lst (evry (xs.drop i.toNat))) (fun b ob q => Heap.get?_push_of_some _ q) (Nat.le_refl _) ?_, rfl, q _ (I5.hok.fresh (Nat.le_refl _))⟩
  refine ⟨by rw [evry_len, List.length_drop]; omega, _, 0, valsEvry (r.drop _), Heap.get?_push_size _ rfl⟩
/-! ### sorted(x), alike data, a list -/
def rSrtD (K : PySem.W.Frag) : List V → Hp → VK → Prop := fun vs H Q => ∃ (a : Addr) (bs : List (V × PyData)), vs = [.ref a] ∧ (SqL K H a (bs.map (·.1)) ∨ SqT K H a (bs.map (·.1))) ∧ (∀ b ∈ bs, Dp K H b.1 b.2) ∧ PySem.W.AllAlike (bs.map (·.2)) ∧ PySem.W.Sortable (bs.map (·.2)) ∧ (∀ b ∈ bs, b.2.depth ≤ 30) ∧
  ∀ p, H p = none → Q (.ref p) (upd H p (.lst ((bs.mergeSort (PySem.W.dataLe false (·.2))).map (·.1))))
section
variable {prog : Program} {w : World} {A : Around} {E : Value → Shared → Prop} {s : Shared} {β : Type} {vs : List Value} {bs : List β} {enc : β → PyData} {R : Value → β → Prop}
/-- sorted(t) of a tuple -/
theorem sorted_dataT {t : Addr} {o : Obj} {n : Nat} {Q : Value → Shared → Prop} (ho : s.heap.get? t = some o) (hc : o.cls = .type "tuple") (hd : o.data = .seq vs.toArray n) (e : PySem.W.EachIs R vs bs) (er : PySem.W.EachIs (fun v b => ∃ as, Reads s.heap v (enc b) as) vs bs) (hal : PySem.W.AllAlike (bs.map enc)) (hk : PySem.W.Sortable (bs.map enc)) (hL : bs.length ≤ sizeLine)
    (hu : ∀ b, b ∈ bs → A.units + 2 + (enc b).depth < cLine)
    (h : ∀ (h' : Heap) (a : Addr) (out : List Value) (c : Nat), (∀ b o, s.heap.get? b = some o → h'.get? b = some o) → s.heap.get? a = none → out.length = bs.length → PySem.W.EachIs R out (bs.mergeSort (PySem.W.dataLe false enc)) → h'.get? a = some (seqObj "list" out.toArray c) → Q (.ref a) { s with heap := h' }) :
    wpAny (model prog w) A (call (.builtin "sorted") [.ref t]) Q E s := by
  have hlen : vs.length = bs.length := e.length
  refine PyProof.Rows.call_function_entry_kw PyProof.Rows.kind_sorted PyProof.Rows.plain_sorted PyProof.Rows.entry_sorted (PyProof.Rows.args_sorted1 _) ?_
  unfold Builtin.«sorted»
  refine wpAny_bind (m := checkCount "sorted" 1 1 _) (wpAny_pure ?_)
  refine wpAny_bind (wpAny_collect_seq t (.inr rfl) ho hc hd (fun h1 hk1 => ?_) (by rw [List.size_toArray, hlen]; exact hL))
  have ev : vs.toArray.toList = vs := by simp
  rw [ev]
  refine wpAny_bind (wpAny_newList ?_ (by rw [hlen]; exact hL))
  have hat : (h1.push (seqObj "list" vs.toArray 0)).get? h1.objs.size = some (seqObj "list" vs.toArray 0) := Heap.get?_push_size _ rfl
  have hold : ∀ b o, s.heap.get? b = some o → b ≠ h1.objs.size ∧ (h1.push (seqObj "list" vs.toArray 0)).get? b = some o := fun b o hb => by
    have hlt := Heap.lt_size (hk1 b o hb)
    exact ⟨Nat.ne_of_lt hlt, Heap.get?_push_of_some _ (hk1 b o hb)⟩
  have hnone : s.heap.get? h1.objs.size = none := by
    cases hg : s.heap.get? h1.objs.size with
    | none => rfl
    | some o => exact absurd rfl (hold _ o hg).1
  show wpAny _ _ _ _ _ { s with heap := h1.push (seqObj "list" vs.toArray 0) }
  refine wpAny_bind (wpAny_holding (PyProof.Rows.wpAny_call_entry_kw PyProof.Rows.slot_list_sort ⟨_, hat, rfl⟩ PyProof.Rows.entry_list_sort ?body (PyProof.Rows.args_list_sort _)))
  case body =>
    show wpAny (model prog w) A.in1.in1 (Builtin.«list.sort» ⟨[.ref h1.objs.size], []⟩) _ _ _
    have er' : PySem.W.EachIs (fun v b => ∃ as, Reads (PySem.W.sortingHeap (h1.push (seqObj "list" vs.toArray 0)) h1.objs.size vs) v (enc b) as) vs bs := er.mono fun _ _ ⟨as, r⟩ => ⟨as, PyProof.Rows.Reads.keeps (fun b o hb => PySem.W.sortingHeap_old (hold b o hb).1 (hold b o hb).2) r⟩
    refine PySem.W.list_sort_vals (s := { s with heap := h1.push (seqObj "list" vs.toArray 0) }) hat (PySem.W.SortsAt.data (s := { s with heap := PySem.W.sortingHeap (h1.push (seqObj "list" vs.toArray 0)) h1.objs.size vs }) (PySem.W.each_map (R := fun v d => ∃ as, Reads (PySem.W.sortingHeap (h1.push (seqObj "list" vs.toArray 0)) h1.objs.size vs) v d as) enc er') hal hk (PySem.W.bound_map hu)) (by rw [hlen]; exact hL) ?_
    obtain ⟨c, hc'⟩ := PyProof.Rows.sortedHeap_at (vs := vs) (out := (PySem.W.sortVals (PySem.W.dataKind (PySem.W.sortingHeap (h1.push (seqObj "list" vs.toArray 0)) h1.objs.size vs) (bs.map enc)) false vs vs).toArray) hat
    refine ⟨_, rfl, wpAny_pure ⟨_, rfl, h _ _ _ c (fun b o hb => ?_) hnone (by rw [PySem.W.sortVals_length false rfl]; exact hlen) (PySem.W.sortVals_data false e er' hal) hc'⟩⟩
    rw [PyProof.Rows.sortedHeap_old (hold b o hb).1 (Heap.lt_size (hold b o hb).2)]
    exact (hold b o hb).2
end
theorem eachRel : ∀ {bs : List (V × PyData)} {us : List Value}, Vals (bs.map (·.1)) us → PySem.W.EachIs (fun u (b : V × PyData) => RelV b.1 u) us bs
  | [], _, .nil => .nil
  | b :: bs, _, .cons r t => .cons r (eachRel t)
theorem relEach : ∀ {bs : List (V × PyData)} {us : List Value}, PySem.W.EachIs (fun u (b : V × PyData) => RelV b.1 u) us bs → Vals (bs.map (·.1)) us
  | [], _, .nil => .nil
  | b :: bs, _, .cons r t => .cons r (relEach t)
theorem each_and {α β : Type} {R : α → β → Prop} {S : β → Prop} : ∀ {us : List α} {bs : List β}, PySem.W.EachIs R us bs → (∀ b ∈ bs, S b) → PySem.W.EachIs (fun u b => R u b ∧ S b) us bs
  | _, _, .nil, _ => .nil
  | _, _, .cons r t, h => .cons ⟨r, h _ List.mem_cons_self⟩ (each_and t fun b hb => h b (List.mem_cons_of_mem _ hb))
theorem obj_has {P : Program} {w : World} {H : Hp} {h : Heap} {a : Addr} {o : HO} (x : ObjOk P w H h a o) : ∃ u, h.get? a = some u := by
  cases o with
  | lst xs => obtain ⟨_, _, _, _, e⟩ := x; exact ⟨_, e⟩
  | tup xs => obtain ⟨_, _, _, ⟨_, e, _⟩⟩ := x; exact ⟨_, e⟩
  | dK kvs => obtain ⟨_, _, _, _, o, _, _, e, _⟩ := x; exact ⟨_, e⟩
  | dT kvs => obtain ⟨_, _, _, _, o, _, _, e, _⟩ := x; exact ⟨_, e⟩
  | set S n => obtain ⟨o, _, _, _, e, _⟩ := x; exact ⟨_, e⟩
  | ins C dx fs => obtain ⟨_, _, _, e, _⟩ := x; exact ⟨_, e⟩
  | own y => obtain ⟨_, e⟩ := x; exact ⟨_, e⟩
  | xd fs => obtain ⟨_, ⟨_, _, _, e, _⟩, _⟩ := x; exact ⟨_, e⟩
  | rng lo hi => obtain ⟨_, _, _, e⟩ := x; exact ⟨_, e⟩
  | frz ob u => obtain ⟨e, _⟩ := x; exact ⟨_, e⟩
  | tbl ps => exact ⟨_, (show h.get? a = some _ from x)⟩
  | met f y => exact ⟨_, (show h.get? a = some _ from x)⟩
  | ext φ => obtain ⟨_, ⟨_, e⟩, _⟩ := x; exact ⟨_, e⟩
theorem cr_srtD {X : Cx} (hu : X.A.units + 64 < cLine) : CallR X (.builtin "sorted") (rSrtD X.K) := by
  intro pins s σ H vs us Q I r h
  obtain ⟨a, bs, rfl, hs, hd, hal, hso, hdp, q⟩ := h
  obtain ⟨u, rfl, ru⟩ := vals1 r
  obtain rfl : u = Value.ref a := ru
  rcases hs with hs | hs
  case inr =>
    obtain ⟨its, rv, ⟨ob, ho, hc, n, hda⟩, hz⟩ := I.tuple hs
    have e0 := eachRel rv
    have er : PySem.W.EachIs (fun v (b : V × PyData) => ∃ as, Reads s.heap v b.2 as) its bs := (each_and e0 hd).mono fun v b ⟨r1, d1⟩ => Dp.reads I b.2 b.1 v d1 r1
    have hlen := rv.length
    rw [List.length_map] at hlen hz
    refine sorted_dataT ho hc hda e0 er hal hso hz (fun b hb => by have := hdp b hb; omega) fun h' p out c hk hp hol eo hc' => ?_
    have hH : H p = none := by
      cases hg : H p with
      | none => rfl
      | some ob =>
        obtain ⟨u, eu⟩ := obj_has (I.hok p ob hg)
        rw [hp] at eu
        cases eu
    refine ⟨.ref _, _, I.laidN (t' := s.toks) (a := p) (o := .lst ((bs.mergeSort (PySem.W.dataLe false (·.2))).map (·.1))) hk hp hH ⟨?_, out, c, relEach eo, hc'⟩, rfl, q _ hH⟩
    rw [List.length_map, List.length_mergeSort]
    exact hz
  obtain ⟨its, rv, hl, hz⟩ := I.list hs
  have e0 := eachRel rv
  have er : PySem.W.EachIs (fun v (b : V × PyData) => ∃ as, Reads s.heap v b.2 as) its bs := (each_and e0 hd).mono fun v b ⟨r1, d1⟩ => Dp.reads I b.2 b.1 v d1 r1
  have hlen := rv.length
  rw [List.length_map] at hlen hz
  refine PySem.W.sorted_data hl.isList e0 er hal hso hz (fun b hb => by have := hdp b hb; omega) fun out ho eo => ?_
  obtain ⟨c, hc⟩ := PyProof.Rows.sortedAll_at s.heap its out.toArray
  refine ⟨.ref _, _, I.laid (t' := s.toks) (a := s.heap.objs.size + 1) (o := .lst ((bs.mergeSort (PySem.W.dataLe false (·.2))).map (·.1))) (fun b o e => PyProof.Rows.sortedAll_old e) (Nat.le_succ _) ⟨?_, out, c, relEach eo, hc⟩, rfl, q _ (I.hok.fresh (Nat.le_succ _))⟩
  rw [List.length_map, List.length_mergeSort]
  exact hz
/-! ### enumerate(t) of a tuple -/
def IteT (K : PySem.W.Frag) (a : Addr) : L2.It :=
  ⟨fun i H => ∃ (xs : List V) (x : V), SqT K H a xs ∧ xs[i]? = some x, fun i H v H' => ∃ T x, v = .ref T ∧ H T = none ∧ H' = upd H T (.tup [.int (i : Nat), x]) ∧ ∀ xs, SqT K H a xs → xs[i]? = some x, fun i H => ∃ xs : List V, SqT K H a xs ∧ xs.length ≤ i⟩

set_option maxHeartbeats 4000000 in
theorem meets_enumerate_newT (t : Addr) (items : Array Value) :
    Meets (Builtin.«enumerate.__new__» ⟨[.type "enumerate", .ref t], []⟩) (fun _ R s => s.heap.IsTuple t items ∧
      R (.ok (.ret (.ref (s.heap.push { cls := .type "tuple_iterator", data := .fields #[.ref t, .int 0 0] }).objs.size))) { s with heap := (s.heap.push { cls := .type "tuple_iterator", data := .fields #[.ref t, .int 0 0] }).push { cls := .type "enumerate", data := .fields #[.none, .bool false, .ref s.heap.objs.size, rawInt 0, .none, .none] } }) :=
  .of_wp fun prog w A R s h => by
    obtain ⟨hp, g, d, tk, os⟩ := s; obtain ⟨h1, h⟩ := h
    have hsub := sub_enumerate
    have q1 : ∀ {A' : Around} {E : Value → Shared → Prop} {Q : Value → Shared → Prop}, Q (.ref hp.objs.size) ⟨hp.push { cls := .type "tuple_iterator", data := .fields #[.ref t, .int 0 0] }, g, d, tk, os⟩ → wpAny (model prog w) A' (pyIter (.ref t)) Q E ⟨hp, g, d, tk, os⟩ :=
      fun q => (begins_tuple t items).iter prog w _ _ ⟨hp, g, d, tk, os⟩ _ h1 q
    wp_walk using q1
    refine wpAny_stack_any fun st => wpAny_pure ?_
    split
    · rename_i c _ _ _ _ _
      cases (c == Value.type "enumerate")
      · wp_walk using q1
        exact ⟨_, rfl, h⟩
      · wp_walk using q1
        exact ⟨_, rfl, h⟩
    · wp_walk using q1
      exact ⟨_, rfl, h⟩
theorem call_enumerate_tuple {prog : Program} {w : World} {A : Around} {E : Value → Shared → Prop} {s : Shared} {l : Addr} {items : Array Value} {Q : Value → Shared → Prop} (hL : s.heap.IsTuple l items)
    (h : ∀ h', IsEnum h' (s.heap.objs.size + 1) s.heap.objs.size 0 .none → h'.IsTupleIter s.heap.objs.size l 0 → h'.objs.size = s.heap.objs.size + 2 →
      (∀ b o, s.heap.get? b = some o → h'.get? b = some o) → Q (.ref (s.heap.objs.size + 1)) { s with heap := h' }) :
    wpAny (model prog w) A (call (.type "enumerate") [.ref l]) Q E s := by
  refine callType_new F.called_enumerate (by decide) (F.typeCall_enumerate_1 _) (F.newCall_enumerate_1 _) (fun obj => F.args_object_init_2 obj _) F.entry_enumerate_new
    (meets_enumerate_newT l items) ⟨hL, ?_⟩
  have hz : (s.heap.push { cls := .type "tuple_iterator", data := .fields #[.ref l, .int 0 0] }).objs.size = s.heap.objs.size + 1 := Heap.size_push ..
  show _ ∧ _
  rw [hz]
  have he : IsEnum ((s.heap.push { cls := .type "tuple_iterator", data := .fields #[.ref l, .int 0 0] }).push
      { cls := .type "enumerate", data := .fields #[.none, .bool false, .ref s.heap.objs.size, rawInt 0, .none, .none] }) (s.heap.objs.size + 1) s.heap.objs.size 0 .none := by
    have := Heap.get?_push_size (s.heap.push { cls := .type "tuple_iterator", data := .fields #[.ref l, .int 0 0] })
      (o := { cls := .type "enumerate", data := .fields #[.none, .bool false, .ref s.heap.objs.size, rawInt 0, .none, .none] }) rfl
    rw [hz] at this; exact this
  refine ⟨⟨_, he, rfl⟩, h _ he ⟨_, Heap.get?_push_of_some _ (Heap.get?_push_size _ rfl), rfl, rfl⟩ (by rw [Heap.size_push, hz]) fun b o x => Heap.get?_push_of_some _ (Heap.get?_push_of_some _ x)⟩
theorem enumT_end {prog : Program} {w : World} {A : Around} {E : Value → Shared → Prop} {s : Shared} {e it a : Addr} {i : Nat} {items : Array Value} {old : Value} {Q : Option Value → Shared → Prop} (hh : A.handled = none)
    (he : IsEnum s.heap e it ((i : Nat) : Int) old) (hit : s.heap.IsTupleIter it a i) (hl : s.heap.IsTuple a items) (hne : a ≠ it) (hx : items[i]? = none)
    (hQ : ∀ h', Heap.ExtBut it s.heap h' → Q none { s with heap := h' }) : wpAny (model prog w) A (pyNext (.ref e)) Q E s := by
  have hT : s.TypeIs (.ref e) "enumerate" := ⟨_, he, rfl⟩
  unfold pyNext
  refine wpAny_bind (wpAny_attempt (wpAny_callSpecial?_slot (name := Str.ofString "__next__") hT F.slot_enumerate_next
    (wpAny_call_entry F.slot_enumerate_next hT F.entry_enumerate_next ?_ (F.args_enumerate_next_1 _))))
  show wpAny _ _ (field (.ref e) 2 >>= _) _ _ _
  refine wpAny_bind (wpAny_field he rfl (x := .ref it) rfl ?_)
  refine wpAny_bind (wpAny_nextOf_tuple_end (A := A.in1) hh hit hl hx fun h' x he' hx' => ?_)
  obtain ⟨o, ho, hc⟩ := hx'
  refine wpAny_bind (wpAny_isInstance (T := "StopIteration") (b := true) ⟨o, ho, hc⟩ isSubtype_stop ?_)
  exact wpAny_pure (hQ _ he')
theorem turn_enumT {P : Program} {w : World} {K : PySem.W.Frag} {elts : List Expr} {kk : Nat} {tpos : Pos} (a e it : Addr) :
    Turn P w K (.Tuple elts kk tpos) (IteT K a) [e, it] e (fun i h => (∃ old, IsEnum h e it ((i : Nat) : Int) old) ∧ h.IsTupleIter it a i ∧ e ≠ it ∧ a ≠ it ∧ a ≠ e) where
  mem := by simp
  obj := fun i h st b hb => by
    obtain ⟨⟨old, he⟩, ⟨o, ho, hc, hd⟩, _⟩ := st
    have e' : b = e ∨ b = it := by simpa using hb
    rcases e' with z | z
    · rw [z]; exact ⟨_, he, fun v q => nomatch q⟩
    · rw [z]; exact ⟨o, ho, fun v q => by rw [hd] at q; cases q⟩
  keep := fun i h h' st k => let ⟨⟨old, he⟩, hi, hne⟩ := st; ⟨⟨old, k e (by simp) _ he⟩, hi.at fun o q => k it (by simp) o q, hne⟩
  item := by
    intro X hP hw hK hc i pins s σ H E I hf st hg
    subst hP hw hK
    obtain ⟨⟨old, he⟩, hit, hne, hai, hae⟩ := st
    obtain ⟨xs, x, hq, hx⟩ := hg
    obtain ⟨its, rv, p, hz⟩ := I.tuple hq
    obtain ⟨u, hu, ru⟩ := rv.get hx
    have hel : e < s.heap.objs.size := Heap.lt_size he
    have hil : it < s.heap.objs.size := by obtain ⟨_, q, _⟩ := hit; exact Heap.lt_size q
    have hlt : i < its.toArray.size := by
      have := (List.getElem?_eq_some_iff.mp hu).1
      simpa using this
    refine wpAny_pyNext_enum_itemD (Draws.tuple (A := X.A.in1) (I.ok.hd hc) it a hai its.toArray) he ⟨hit, show s.heap.IsTuple a its.toArray from p⟩ hlt hne (by simp [hne, Ne.symm hae]) fun x' h' tk hPx ho hst hT hsz hk => ?_
    have ex : x' = u := by
      have : its.toArray[i]? = some x' := hPx
      have h2 : its.toArray[i]? = some u := by simpa using hu
      rw [h2] at this
      exact (Option.some.inj this).symm
    subst ex
    obtain ⟨hit', _⟩ := hst
    refine ⟨_, rfl, wpAny_letOwnedTupleGo_enum (s := { s with heap := h', toks := tk + 1 }) ho fun h'' he' sb => ?_⟩
    have hT2 : h''.get? s.heap.objs.size = some { cls := .type "tuple", data := .seq #[.int i tk, x'] } := (sb.2 _ (Nat.ne_of_gt hel)).trans hT
    have new : ObjOk X.prog X.w (upd H s.heap.objs.size (.tup [.int (i : Nat), x])) h'' s.heap.objs.size (.tup [.int (i : Nat), x]) :=
      ⟨by show 2 ≤ sizeLine; decide, [.int i tk, x'], .cons ⟨_, rfl⟩ (.cons ru .nil), ⟨_, hT2, rfl, _, rfl⟩⟩
    have I1 : Inv X pins σ (upd H s.heap.objs.size (.tup [.int (i : Nat), x])) { s with heap := h'', toks := tk + 1 } :=
      I.turnedNew (ch := [e, it]) (fun b ob hb q => (sb.2 b (fun z => hb (by simp [z]))).trans (hk b ob (fun z => hb (by simp [z])) (fun z => hb (by simp [z])) q)) hf (Nat.le_refl _) new
    refine ⟨.ref s.heap.objs.size, _, I1, rfl, ⟨_, x, rfl, I.hok.fresh (Nat.le_refl _), rfl, fun ys hy => by rw [I.tuple_inj hy hq]; exact hx⟩, ⟨⟨x', ?_⟩, hit'.at fun o q => (sb.2 it (Ne.symm hne)).trans q, hne, hai, hae⟩, fun b hb => ?_⟩
    · have e1 : ((i + 1 : Nat) : Int) = (i : Int) + 1 := by omega
      rw [e1]; exact he'
    · have hb' : b < s.heap.objs.size := by
        have e' : b = e ∨ b = it := by simpa using hb
        rcases e' with z | z
        · rw [z]; exact hel
        · rw [z]; exact hil
      rw [upd_ne (Nat.ne_of_lt hb')]
      exact (hf b hb).1
  done := by
    intro X hP hw hK hc i pins s σ H E I hf st hg
    subst hP hw hK
    obtain ⟨⟨old, he⟩, hit, hne, hai, hae⟩ := st
    obtain ⟨xs, hq, hx⟩ := hg
    obtain ⟨its, rv, p, hz⟩ := I.tuple hq
    obtain ⟨f0, f1, f2, f3, f4, f5⟩ := hf it (by simp)
    have hl := rv.length
    exact enumT_end (I.ok.hd hc) he hit (show s.heap.IsTuple a its.toArray from p) hai (by simp; omega) fun h' eb => ⟨rfl, I.turned (t' := s.toks) (fun b o hb q => eb b o hb q) f0 f1 f3 f4 f5⟩
  self := fun A i s Q E st h => let ⟨⟨_, he⟩, _⟩ := st; wpAny_pyIter_enum he h
def iEnumA (K : PySem.W.Frag) (ta : TA) : TI := fun σ H R => ta σ H fun vs H1 => ∃ a xs, vs = [.ref a] ∧ ((SqL K H1 a xs ∧ R (Ite K a) H1) ∨ (SqT K H1 a xs ∧ R (IteT K a) H1))
theorem pi_enumA {X : Cx} {e : Expr} {ta : TA} {p pos tpos : Pos} {elts : List Expr} {kk : Nat} (hg : Gl X "enumerate") (hm : X.mg "enumerate" = none) (ha : PA X [e] ta) (hs : starEach [e] X.env = [(false, eval e X.env)]) :
    PI X (.Tuple elts kk tpos) (.Call (.Name "enumerate" p) [e] [] pos) (iEnumA X.K ta) := by
  refine ⟨fun pins s σ H R I h => ?_⟩
  refine Call_ (ld_blt I hg hm boot_enumerate (PyProof.Rows.callWith_type1 (thn (ha.run pos pins s σ H _ I h) fun us s1 ⟨vs, H1, I1, r1, q1⟩ => ?_) hs rfl))
  obtain ⟨a, xs, ex, q1⟩ := q1
  subst ex
  cases r1 with
  | cons r rr =>
    cases rr
    cases r
    have fresh2 : ∀ b, b ∈ [s1.heap.objs.size + 1, s1.heap.objs.size] → FpOk X pins H1 b := fun b hb => by
      have e' : b = s1.heap.objs.size + 1 ∨ b = s1.heap.objs.size := by simpa using hb
      have hle : s1.heap.objs.size ≤ b := by
        rcases e' with z | z
        · rw [z]; exact Nat.le_add_right _ _
        · rw [z]; exact Nat.le_refl _
      exact I1.fpOk hle (I1.hok.fresh hle)
    rcases q1 with ⟨hq, q⟩ | ⟨hq, q⟩
    · obtain ⟨its, rv, p', hz⟩ := I1.list hq
      refine call_enumerate_list p'.isList fun h' he hit hsz hk => wpAny_pyIter_enum he ?_
      have I2 : Inv X pins σ H1 { s1 with heap := h' } := I1.kept (t' := s1.toks) hk
      exact ⟨s1.heap.objs.size + 1, [s1.heap.objs.size + 1, s1.heap.objs.size], _, _, H1, rfl, I2, turn_enum a (s1.heap.objs.size + 1) s1.heap.objs.size, ⟨⟨.none, he⟩, hit, Nat.succ_ne_self _⟩, fresh2, q⟩
    · obtain ⟨its, rv, p', hz⟩ := I1.tuple hq
      obtain ⟨o1, ho1, _⟩ := id p'
      have hlt := Heap.lt_size ho1
      refine call_enumerate_tuple (show s1.heap.IsTuple a its.toArray from p') fun h' he hit hsz hk => wpAny_pyIter_enum he ?_
      have I2 : Inv X pins σ H1 { s1 with heap := h' } := I1.kept (t' := s1.toks) hk
      exact ⟨s1.heap.objs.size + 1, [s1.heap.objs.size + 1, s1.heap.objs.size], _, _, H1, rfl, I2, turn_enumT a (s1.heap.objs.size + 1) s1.heap.objs.size, ⟨⟨.none, he⟩, hit, Nat.succ_ne_self _, Nat.ne_of_lt hlt, Nat.ne_of_lt (Nat.lt_succ_of_lt hlt)⟩, fresh2, q⟩
end LR

set_option Elab.async false
set_option linter.all false
set_option maxRecDepth 100000
set_option maxHeartbeats 4000000
namespace LR
open PySem PySem.Spec PyProof.Rows L2
/-! ### targets -/
def gNames : List Nat → TGs
  | [] => gNil
  | i :: is => gCons (gName i) (gNames is)
def gT (K : PySem.W.Frag) (tp : Bool) (vs : List Nat) : TG := if tp then gTup K vs.length (gNames vs) else match vs with
  | [i] => gName i
  | _ => fun _ _ _ _ => False
theorem wipe_get {σ : L2.St} {j : Nat} : ∀ {vs : List Nat}, (wipe σ vs)[j]? = if j ∈ vs then (σ[j]?).map (fun _ => none) else σ[j]?
  | [] => by simp [wipe]
  | v :: vs => by
    unfold wipe
    rw [List.getElem?_set, wipe_get, wipe_length]
    by_cases h : v = j
    · subst h
      rw [if_pos rfl, if_pos List.mem_cons_self]
      by_cases hl : v < σ.length
      · rw [if_pos hl, List.getElem?_eq_getElem hl]
        rfl
      · rw [if_neg hl, List.getElem?_eq_none (Nat.le_of_not_lt hl)]
        rfl
    · have h' : ¬ j = v := fun e => h e.symm
      simp [h, h']
theorem wipe_set {σ : L2.St} {i : Nat} {v : Option V} {vs : List Nat} (h : i ∈ vs) : wipe (σ.set i v) vs = wipe σ vs := by
  refine List.ext_getElem? fun j => ?_
  rw [wipe_get, wipe_get, List.getElem?_set]
  by_cases hj : i = j
  · subst hj
    rw [if_pos h, if_pos h, if_pos rfl]
    split
    · rename_i hl
      simp [List.getElem?_eq_getElem hl]
    · rename_i hl
      first | rfl | (rw [List.getElem?_eq_none (Nat.le_of_not_lt hl)]; rfl) | simp [List.getElem?_eq_none (Nat.le_of_not_lt hl)]
  · rw [if_neg hj]
theorem wipe_wipe {σ : L2.St} {vs : List Nat} : wipe (wipe σ vs) vs = wipe σ vs := by
  refine List.ext_getElem? fun j => ?_
  rw [wipe_get, wipe_get]
  split
  · rw [Option.map_map]
    rfl
  · rfl
section
variable {K : PySem.W.Frag} {cn : Cn} {w : Wd}
theorem RS.set' {σ : L2.St} {s : Sl} (h : RS K w σ s) (i : Nat) {v : V} {d : D} (r : Rv K w v d) : RS K w (σ.set i (some v)) (s.set i (some d)) := by
  by_cases hi : i < s.length
  · exact h.set i hi r
  · rw [List.set_eq_of_length_le (Nat.le_of_not_lt hi), List.set_eq_of_length_le (by rw [← h.1]; exact Nat.le_of_not_lt hi)]
    exact h
theorem RS.none {σ : L2.St} {s : Sl} (h : RS K w σ s) (i : Nat) : RS K w (σ.set i Option.none) (s.set i Option.none) := by
  refine ⟨by rw [List.length_set, List.length_set]; exact h.1, fun j e he => ?_⟩
  by_cases hj : i = j
  · subst hj
    by_cases hi : i < s.length
    · rw [List.getElem?_set_self hi] at he
      cases he
    · rw [List.getElem?_eq_none (by rw [List.length_set]; exact Nat.le_of_not_lt hi)] at he
      cases he
  · rw [List.getElem?_set_ne hj] at he
    obtain ⟨u, h1, h2⟩ := h.2 j e he
    exact ⟨u, by rw [List.getElem?_set_ne hj]; exact h1, h2⟩
theorem RS.wipe {σ : L2.St} {s : Sl} (h : RS K w σ s) : ∀ vs : List Nat, RS K w (L2.wipe σ vs) (wipeS s vs)
  | [] => h
  | v :: vs => (h.wipe vs).none v
theorem gNames_run : ∀ {is all : List Nat} {ds : List D} {xs : List V} {s s' : Sl} {σ : L2.St} {H : Hp} {Q : L2.St → Hp → Prop}, setAll is ds s = some s' → RS K w σ s → Rvs K w xs ds → (∀ i ∈ is, i ∈ all) →
    (∀ σ', RS K w σ' s' → L2.wipe σ' all = L2.wipe σ all → Q σ' H) → gNames is xs σ H Q
  | [], all, [], xs, s, s', σ, H, Q, h, rs, r, ha, q => by
    cases r
    simp only [setAll] at h
    cases h
    exact ⟨rfl, q σ rs rfl⟩
  | i :: is, all, d :: ds, xs, s, s', σ, H, Q, h, rs, r, ha, q => by
    cases r with
    | cons rv t =>
      simp only [setAll] at h
      refine ⟨_, _, rfl, ?_⟩
      exact gNames_run h (rs.set' i rv) t (fun j hj => ha j (List.mem_cons_of_mem _ hj)) fun σ' rs' e => q σ' rs' (e.trans (wipe_set (ha i List.mem_cons_self)))
  | [], all, _ :: _, xs, s, s', σ, H, Q, h, rs, r, ha, q => by simp [setAll] at h
  | _ :: _, all, [], xs, s, s', σ, H, Q, h, rs, r, ha, q => by simp [setAll] at h
theorem setAll_len : ∀ {is : List Nat} {ds : List D} {s s' : Sl}, setAll is ds s = some s' → is.length = ds.length
  | [], [], _, _, _ => rfl
  | _ :: _, _ :: _, _, _, h => by simp only [setAll] at h; simp [setAll_len h]
  | [], _ :: _, _, _, h => by simp [setAll] at h
  | _ :: _, [], _, _, h => by simp [setAll] at h
theorem gT_run {tp : Bool} {vs : List Nat} {d : D} {x : V} {s s' : Sl} {σ : L2.St} {Q : L2.St → Hp → Prop} (h : asgN tp vs d s = some s') (rs : RS K w σ s) (rv : Rv K w x d)
    (q : ∀ σ', RS K w σ' s' → L2.wipe σ' vs = L2.wipe σ vs → Q σ' w.H) : gT K tp vs x σ w.H Q := by
  unfold gT
  unfold asgN at h
  cases tp with
  | true =>
    rw [if_pos rfl] at h ⊢
    cases rv with
    | tup f r =>
      have h : setAll vs _ s = some s' := h
      refine ⟨_, _, rfl, f.sq, ?_, gNames_run h rs r (fun i hi => hi) q⟩
      rw [r.length, setAll_len h]
    | _ => cases h
  | false =>
    rw [if_neg Bool.false_ne_true] at h ⊢
    match vs, h with
    | [i], h =>
      simp only [setAll] at h
      cases h
      exact q _ (rs.set' i rv) (wipe_set List.mem_cons_self)
    | [], h => simp [setAll] at h
    | _ :: _ :: _, h => simp [setAll] at h
/-! ### a list just made -/
theorem free_back {w1 : Wd} (rm : RM K cn w) (rm1 : RM K cn w1) (fr : Fr w w1) {p : Addr} (h : Free w1 p) : Free w p := fun o e => by
  rcases Classical.em (∃ ps, o = .tbl ps) with q | q
  · exact q
  · exfalso
    have nt : ∀ ps, o ≠ .tbl ps := fun ps z => q ⟨ps, z⟩
    by_cases hm : p ∈ w.M
    · obtain ⟨x, hx⟩ := fr.wk.pre
      obtain ⟨u, hu, nu⟩ := rm1.dom p (by rw [hx]; exact List.mem_append_left _ hm)
      obtain ⟨ps, z⟩ := h u hu
      exact nu.1 ps z
    · by_cases hx : p ∈ w.X
      · have := fr.keep p hx
        rw [e] at this
        obtain ⟨ps, z⟩ := h o this
        exact nt ps z
      · have := (fr.wk.old p o e (notlive hm) hx nt).1
        obtain ⟨ps, z⟩ := h o this
        exact nt ps z
theorem Grown.new {w1 : Wd} {Q : VK} {ds : List D} {m : Mem} (g : Grown K cn w Q ds m) (rm : RM K cn w) (rm1 : RM K cn w1) (hm : w1.m = m) (fr : Fr w w1) {p : Addr} {xs : List V} (h : w1.H p = none) (r : Rvs K w1 xs ds) : Q (.ref p) (upd w1.H p (.lst xs)) := by
  have h0 := free_back rm rm1 fr (Free.of h)
  refine g (w1.grow p xs) p xs hm (rm1.grow h) ?_ ?_ h0 (rm.notXF h0) upd_same (r.grow h)
  · have f2 : Fr w1 (w1.put p (.lst xs)) := Fr.put rm1 h
    have e : (w1.grow p xs).ungrow w.X = w1.put p (.lst xs) := by
      show (⟨_, _, _, w.X⟩ : Wd) = ⟨_, _, _, w1.X⟩
      rw [fr.same]
    rw [e]
    exact fr.trans f2
  · show p :: w1.X = p :: w.X
    rw [fr.same]
end
section
variable {X : Cx} {Z : Ec} {W : WX} {e e1 e2 e3 : Expr} {es : List Expr} {a b c : E} {as : Es} {n : N} {pos pos2 : Pos}
theorem nlF_imp {σ : L2.St} {H : Hp} {Q : VK} (h : eE X Z W (.nl false n) σ H Q) : eN X Z W n σ H Q := by
  obtain ⟨w, s, hw, rm, rs, p⟩ := h
  refine ⟨w, s, hw, rm, rs, ?_⟩
  rw [ev] at p
  cases hr : evN Z.G Z.cl n s w.m with
  | err => rw [hr] at p; exact p
  | exc x m => rw [hr] at p; exact p
  | ok ds m =>
    rw [hr] at p
    intro w' a xs hm rm' fr hX h0 hx e1 r
    have sub : ∀ b, b ∈ w.X → b ∈ w'.X := fun b hb => by rw [hX]; exact List.mem_cons_of_mem _ hb
    have haX : a ∈ w'.X := by rw [hX]; exact List.mem_cons_self
    exact p (w'.ungrow w.X) (.ref a) hm (rm'.ungrow sub) fr (.lst ⟨e1, notlive (rm'.apart a haX), hx⟩ (r.mono (Fw.ungrow sub)))
theorem nlM_imp {σ : L2.St} {H : Hp} {Q : VK} (h : eE X Z W (.nl true n) σ H Q) : eN X Z W n σ H Q := by
  obtain ⟨w, s, hw, rm, rs, p⟩ := h
  refine ⟨w, s, hw, rm, rs, ?_⟩
  rw [ev] at p
  cases hr : evN Z.G Z.cl n s w.m with
  | err => rw [hr] at p; exact p
  | exc x m => rw [hr] at p; exact p
  | ok ds m =>
    rw [hr] at p
    intro w' a xs hm rm' fr hX h0 hx e1 r
    have haX : a ∈ w'.X := by rw [hX]; exact List.mem_cons_self
    subst hm
    refine p ((w'.adopt a (.lst ds)).ungrow w.X) (.ref a) rfl (rm'.adopted hX hx e1 r) ?_ (.ref ?_)
    · refine ⟨⟨?_, fun b o hb nl nx nt => ?_⟩, rfl, fr.keep⟩
      · obtain ⟨x, hx⟩ := fr.wk.pre
        exact ⟨x ++ [a], by show w'.M ++ [a] = _; rw [show w'.M = w.M ++ x from hx, List.append_assoc]⟩
      · obtain ⟨h1, h2, h3⟩ := fr.wk.old b o hb nl nx nt
        refine ⟨h1, fun l => h2 ?_, nx⟩
        have hba : b ≠ a := fun z => by obtain ⟨ps, zz⟩ := h0 o (z ▸ hb); exact nt ps zz
        exact (live_adopt (c := .lst ds) rm' hba).mp l
    · show (w'.M ++ [a])[w'.m.length]? = some a
      rw [← rm'.len, List.getElem?_append_right (Nat.le_refl _)]
      simp
theorem Rv.lseq {K : PySem.W.Frag} {cn : Cn} {w : Wd} {v : V} {d : D} {l : List D} (r : Rv K w v d) (rm : RM K cn w) (h : d.lseq w.m = some l) : ∃ p xs, v = .ref p ∧ SqL K w.H p xs ∧ Rvs K w xs l := by
  cases r with
  | lst f r => cases h; exact ⟨_, _, rfl, f.sq, r⟩
  | scr f r => cases h; exact ⟨_, _, rfl, f.sq, r⟩
  | @ref a n hM =>
    simp only [D.lseq] at h
    split at h
    · rename_i q hc
      cases h
      obtain ⟨ys, h1, h2⟩ := rm.lst hM hc
      exact ⟨_, _, rfl, .inl (.inl h1), h2⟩
    · cases h
  | _ => cases h
theorem nl_imp {mt : Bool} {σ : L2.St} {H : Hp} {Q : VK} (h : eE X Z W (.nl mt n) σ H Q) : eN X Z W n σ H Q := by
  cases mt
  · exact nlF_imp h
  · exact nlM_imp h
theorem se_nl {mt : Bool} (h : PE X e (eN X Z W n)) : PE X e (eE X Z W (.nl mt n)) := pe_imp h fun σ H Q => nl_imp
/-! ### the list makers -/
theorem Grown.later {K : PySem.W.Frag} {cn : Cn} {w w1 : Wd} {Q : VK} {ds : List D} {m : Mem} (rm : RM K cn w) (rm1 : RM K cn w1) (f : Fr w w1) (g : Grown K cn w Q ds m) : Grown K cn w1 Q ds m :=
  fun w' a xs hm rm' fr hX h0 hx e r => g w' a xs hm rm' (by rw [← f.same]; exact f.trans fr) (by rw [hX, f.same]) (free_back rm rm1 f h0) (by rw [← f.same]; exact hx) e r
theorem PostN.later {K : PySem.W.Frag} {cn : Cn} {mg : Str → Option Value} {Q : VK} {E : XK} {w w1 : Wd} {r : R (List D)} (rm : RM K cn w) (rm1 : RM K cn w1) (f : Fr w w1) (h : PostN K cn mg Q E w r) : PostN K cn mg Q E w1 r := by
  cases r with
  | ok a m => exact Grown.later rm rm1 f h
  | exc x m => exact fun w' cls d hm rm fr hc hf => h w' cls d hm rm (f.trans fr) hc hf
  | err => exact h
theorem PostN.splitN {K : PySem.W.Frag} {cn : Cn} {mg : Str → Option Value} {α' β' : Type} {rel' : Wd → β' → α' → Prop} {Q : VK} {Q' : β' → Hp → Prop} {E : XK} {w : Wd} {r : R α'} {f : α' → Mem → R (List D)} (rm : RM K cn w) (h : PostN K cn mg Q E w (r.bind f))
    (k : ∀ (a : α') (w1 : Wd) (b : β'), RM K cn w1 → Fr w w1 → rel' w1 b a → PostN K cn mg Q E w1 (f a w1.m) → Q' b w1.H) : Post K cn mg rel' Q' E w r := by
  cases r with
  | ok a m =>
    intro w1 b hm rm1 fr hr
    have h2 : PostN K cn mg Q E w (f a m) := h
    rw [← hm] at h2
    exact k a w1 b rm1 fr hr (PostN.later rm rm1 fr h2)
  | exc x m => exact h
  | err => exact h
theorem PostN.opt {K : PySem.W.Frag} {cn : Cn} {mg : Str → Option Value} {Q : VK} {E : XK} {w : Wd} {m : Mem} {o : Option (List D)} (h : PostN K cn mg Q E w (LR.opt m o)) : ∃ ds, o = some ds ∧ Grown K cn w Q ds m := by
  cases o with
  | none => exact h.elim
  | some d => exact ⟨d, rfl, h⟩
theorem sn_disp (ha : PA X es (eA X Z W as)) (hl : as.len ≤ lim) : PE X (.List es pos) (eN X Z W (.disp as)) := pe_imp (pe_lst ha) fun σ H Q ⟨w, s, hw, rm, rs, p⟩ => by
  subst hw
  rw [evN] at p
  refine ⟨w, s, rfl, rm, rs, ?_⟩
  cases hr : evs Z.G Z.cl as s w.m with
  | err => rw [hr] at p; exact p
  | exc x m => rw [hr] at p; exact p
  | ok ds m =>
    rw [hr] at p
    have hlen := evs_len hr
    intro w1 vs hm rm1 fr hv
    have h2 := hv.length
    exact ⟨le_line (by omega), fun q hq => Grown.new p rm rm1 hm fr hq hv⟩
theorem Grown.new' {K : PySem.W.Frag} {cn : Cn} {w : Wd} {Q : VK} {ds : List D} (g : Grown K cn w Q ds w.m) (rm : RM K cn w) {p : Addr} {xs : List V} (h : w.H p = none) (r : Rvs K w xs ds) : Q (.ref p) (upd w.H p (.lst xs)) := g.new rm rm rfl (Fr.refl w) h r
theorem sn_one {r : List V → Hp → VK → Prop} (hp : PE X e (tCB r (tCons (eE X Z W a) tNil))) (f : D → Mem → Option (List D)) (hev : ∀ s m, evN Z.G Z.cl n s m = (ev Z.G Z.cl a s m).bind fun x m => opt m (f x m))
    (k : ∀ (w : Wd) (x : V) (d : D) (ds : List D) (Q : VK), RM X.K Z.cn w → Rv X.K w x d → f d w.m = some ds → Grown X.K Z.cn w Q ds w.m → r [x] w.H Q) : PE X e (eN X Z W n) :=
  pe_imp hp fun σ H Q ⟨w, s, hw, rm, rs, p⟩ => by
    subst hw
    rw [hev] at p
    refine ⟨w, s, rfl, rm, rs, p.splitN rm fun d w1 v rm1 fr rv p1 => ?_⟩
    obtain ⟨ds, hd, g⟩ := p1.opt
    exact k w1 v d ds Q rm1 rv hd g
/-- list(x) -/
theorem sn_cp {p q : Pos} (ha : PE X e (eE X Z W a)) (hg : Gl X "list") (hm : X.mg "list" = none) (he : starEach [e] X.env = (false, eval e X.env) :: starEach [] X.env) (hpl : (backTo pos (starEach [] X.env)).any (·.1) = false) :
    PE X (.Call (.Name "list" p) [e] [] pos) (eN X Z W (.cp a)) := by
  refine sn_one (pe_callTy call_list_of hg hm boot_list (pa_cons ha pa_nil he) (by decide) (by decide) he hpl) (semN1 0) (fun s m => by rw [evN]) fun w x d ds Q rm rv hd g => ?_
  have hd : d.seq w.m = some ds := hd
  obtain ⟨p, xs, rfl, sq, rvs⟩ := rv.seq rm hd
  exact ⟨p, xs, rfl, sq, fun l hl => g.new' rm hl rvs⟩
theorem perm_srt : ∀ (ns : List Int), (srtI ns).Perm ns ∧ (srtI ns).Pairwise (· ≤ ·)
  | [] => ⟨.nil, .nil⟩
  | i :: l => by
    obtain ⟨h1, h2⟩ := perm_srt l
    have ins : ∀ (i : Int) (l : List Int), (insI i l).Perm (i :: l) := by
      intro i l
      induction l with
      | nil => exact .refl _
      | cons j l ih =>
        unfold insI
        split
        · exact .refl _
        · exact (ih.cons j).trans (.swap i j l)
    have srt : ∀ (i : Int) (l : List Int), l.Pairwise (· ≤ ·) → (insI i l).Pairwise (· ≤ ·) := by
      intro i l
      induction l with
      | nil => intro _; simp [insI]
      | cons j l ih =>
        intro h
        unfold insI
        split
        · rename_i hij
          refine List.pairwise_cons.mpr ⟨fun y hy => ?_, h⟩
          rcases List.mem_cons.mp hy with rfl | hy
          · exact hij
          · exact Int.le_trans hij ((List.pairwise_cons.mp h).1 y hy)
        · rename_i hij
          obtain ⟨a1, a2⟩ := List.pairwise_cons.mp h
          refine List.pairwise_cons.mpr ⟨fun y hy => ?_, ih a2⟩
          rcases List.mem_cons.mp ((ins i l).mem_iff.mp hy) with rfl | hy
          · omega
          · exact a1 y hy
    exact ⟨(ins i _).trans (h1.cons i), srt i _ h2⟩
theorem srt_uniq {l m : List Int} (p : l.Perm m) (hl : l.Pairwise (· ≤ ·)) (hm : m.Pairwise (· ≤ ·)) : l = m := p.eq_of_pairwise (fun a b _ _ h1 h2 => Int.le_antisymm h1 h2) hl hm
/-- sorted(x), ints -/
theorem sn_srt {p q : Pos} (ha : PE X e (eE X Z W a)) (hg : Gl X "sorted") (hm : X.mg "sorted" = none) (he : starEach [e] X.env = (false, eval e X.env) :: starEach [] X.env) (hpl : (backTo pos (starEach [] X.env)).any (·.1) = false) :
    PE X (.Call (.Name "sorted" p) [e] [] pos) (eN X Z W (.srt a)) := by
  refine sn_one (pe_callB cr_sortedI hg hm boot_sorted (pa_cons ha pa_nil he) (by decide) (by decide) he hpl) (semN1 1) (fun s m => by rw [evN]) fun w x d ds Q rm rv hd g => ?_
  obtain ⟨l, hl, hd⟩ := Option.bind_eq_some_iff.mp (show ((d.lseq w.m).bind fun l => (toInts l).map fun ns => (srtI ns).map D.int) = some ds from hd)
  obtain ⟨ns, hn, rfl⟩ := Option.map_eq_some_iff.mp hd
  obtain ⟨p, xs, rfl, sq, rvs⟩ := rv.lseq rm hl
  have e := ints_map hn
  subst e
  have e := rvs.ints
  subst e
  refine ⟨p, ns, rfl, sq, fun ns' p' hp hs hn => ?_⟩
  obtain ⟨k1, k2⟩ := perm_srt ns
  have e := srt_uniq (hp.trans k1.symm) hs k2
  rw [e]
  exact g.new' rm hn (Rvs.ofInts _)
/-- x[lo:hi] of a list -/
theorem sn_sl {lo hi : Option Expr} {el eh : E} (ha : PE X e (eE X Z W a)) (hl : PO X lo (eO X Z W el)) (hh : PO X hi (eO X Z W eh)) : PE X (.Subscript e (.Slice lo hi none pos2) pos) (eN X Z W (.sl a el eh)) :=
  pe_imp (pe_slice sl_list ha hl hh) fun σ H Q ⟨w, s, hw, rm, rs, p⟩ => by
    subst hw
    rw [evN] at p
    refine ⟨w, s, rfl, rm, rs, p.splitN rm fun dx w1 x rm1 fr1 rx p1 => ?_⟩
    refine ⟨w1, s, rfl, rm1, rs.mono fr1.wk, p1.splitN rm1 fun l w2 l' rm2 fr2 rl p2 => ?_⟩
    refine ⟨w2, s, rfl, rm2, (rs.mono fr1.wk).mono fr2.wk, p2.splitN rm2 fun h w3 h' rm3 fr3 rh p3 => ?_⟩
    have rl : l' = l := rl
    have rh : h' = h := rh
    subst rl rh
    obtain ⟨ds, hd, g⟩ := p3.opt
    obtain ⟨q, hq, rfl⟩ := Option.map_eq_some_iff.mp hd
    obtain ⟨p, xs, rfl, sq, rvs⟩ := Rv.lseq ((rx.mono fr2.wk).mono fr3.wk) rm3 hq
    exact ⟨p, xs, rfl, sq, fun l hl => g.new' rm3 hl (rvs.cut l' h')⟩
theorem Rvs.evry {K : PySem.W.Frag} {w : Wd} : ∀ {xs : List V} {ds : List D}, Rvs K w xs ds → Rvs K w (LR.evry xs) (LR.evry ds)
  | _, _, .nil => by simp only [LR.evry]; exact .nil
  | _, _, .cons r .nil => by simp only [LR.evry]; exact .cons r .nil
  | _, _, .cons r (.cons _ t) => by simp only [LR.evry]; exact .cons r (Rvs.evry t)
/-- x[lo::2] of a list -/
theorem sn_sl2 {lo : Expr} {el : E} {k : Nat} {p1 p3 : Pos} (ha : PE X e (eE X Z W a)) (hl : PE X lo (eE X Z W el)) : PE X (.Subscript e (.Slice (some lo) none (some (.Constant (.int 2) k p1)) p3) pos) (eN X Z W (.sl2 a el)) :=
  pe_imp (pe_sl2 ha hl) fun σ H Q ⟨w, s, hw, rm, rs, p⟩ => by
    subst hw
    rw [evN] at p
    refine ⟨w, s, rfl, rm, rs, p.splitN rm fun dx w1 x rm1 fr1 rx p1 => ?_⟩
    refine ⟨w1, s, rfl, rm1, rs.mono fr1.wk, p1.splitN rm1 fun l w2 l' rm2 fr2 rl p2 => ?_⟩
    obtain ⟨ds, hd, g⟩ := p2.opt
    cases rl with
    | int i =>
      simp only at hd
      by_cases hi : 0 ≤ i
      · rw [if_pos hi] at hd
        obtain ⟨q, hq, rfl⟩ := Option.map_eq_some_iff.mp hd
        obtain ⟨p, xs, rfl, sq, rvs⟩ := Rv.lseq (rx.mono fr2.wk) rm2 hq
        exact ⟨p, xs, i, rfl, rfl, hi, sq, fun l hl => g.new' rm2 hl (Rvs.evry (rvs.drop _))⟩
      · rw [if_neg hi] at hd; cases hd
    | _ => cases hd
/-- sorted(x), alike data -/
theorem Rvs.zips {K : PySem.W.Frag} {w : Wd} : ∀ {xs : List V} {ds : List D}, Rvs K w xs ds → ∀ b ∈ xs.zip ds, Rv K w b.1 b.2
  | _, _, .nil, b, hb => by simp at hb
  | _, _, .cons r t, b, hb => by
    rw [List.zip_cons_cons] at hb
    rcases List.mem_cons.mp hb with rfl | hb
    · exact r
    · exact t.zips b hb
theorem Rvs.ofPairs {K : PySem.W.Frag} {w : Wd} : ∀ (l : List (V × D)), (∀ b ∈ l, Rv K w b.1 b.2) → Rvs K w (l.map (·.1)) (l.map (·.2))
  | [], _ => .nil
  | b :: l, h => .cons (h b List.mem_cons_self) (Rvs.ofPairs l fun c hc => h c (List.mem_cons_of_mem _ hc))
theorem sn_srd {p q : Pos} (ha : PE X e (eE X Z W a)) (hg : Gl X "sorted") (hm : X.mg "sorted" = none) (hu : X.A.units + 64 < cLine) (he : starEach [e] X.env = (false, eval e X.env) :: starEach [] X.env) (hpl : (backTo pos (starEach [] X.env)).any (·.1) = false) :
    PE X (.Call (.Name "sorted" p) [e] [] pos) (eN X Z W (.srd a)) := by
  refine sn_one (pe_callB (cr_srtD hu) hg hm boot_sorted (pa_cons ha pa_nil he) (by decide) (by decide) he hpl) (semN1 3) (fun s m => by rw [evN]) fun w x d ds Q rm rv hd g => ?_
  obtain ⟨l, hl, hd⟩ := Option.bind_eq_some_iff.mp (show ((d.seq w.m).bind fun l => if sortOk l then some (sortD l) else none) = some ds from hd)
  by_cases hok : sortOk l = true
  · rw [if_pos hok] at hd
    cases hd
    unfold sortOk at hok
    simp only [Bool.and_eq_true, Bool.or_eq_true, List.all_eq_true, decide_eq_true_eq] at hok
    obtain ⟨⟨hso, hall⟩, hlen⟩ := hok
    obtain ⟨p, xs, rfl, sq, rvs⟩ := Rv.seq rm rv hl
    have hz1 : (xs.zip l).map (·.1) = xs := by rw [List.map_fst_zip]; exact Nat.le_of_eq rvs.length
    have hz2 : (xs.zip l).map (·.2) = l := by rw [List.map_snd_zip]; exact Nat.le_of_eq rvs.length.symm
    have hmem : ∀ b ∈ xs.zip l, b.2 ∈ l := fun b hb => by rw [← hz2]; exact List.mem_map.mpr ⟨b, hb, rfl⟩
    refine ⟨p, (xs.zip l).map fun b => (b.1, b.2.py), rfl, ?_, fun b hb => ?_, ?_, ?_, fun b hb => ?_, fun q hq => ?_⟩
    · rw [List.map_map]
      have : ((fun b : V × PyData => b.1) ∘ fun b : V × D => (b.1, b.2.py)) = (·.1) := rfl
      rw [this, hz1]
      exact sq
    · obtain ⟨c, hc, rfl⟩ := List.mem_map.mp hb
      exact Rv.dp (fun _ => trivial) (rvs.zips c hc) (SeqAt.canLay_of_shaped (hall _ (hmem c hc)).1.1)
    · intro d1 h1 d2 h2
      rw [List.map_map] at h1 h2
      obtain ⟨b1, m1, rfl⟩ := List.mem_map.mp h1
      obtain ⟨b2, m2, rfl⟩ := List.mem_map.mp h2
      exact (hall _ (hmem b1 m1)).2 _ (hmem b2 m2)
    · rcases hso with hso | hso
      · refine .inl fun d1 h1 => ?_
        rw [List.map_map] at h1
        obtain ⟨b1, m1, rfl⟩ := List.mem_map.mp h1
        have := hso _ (hmem b1 m1)
        show ∃ x r, b1.2.py = .tuple (x :: r)
        cases hb : b1.2 with
        | tup q =>
          rw [hb] at this
          cases q with
          | nil => simp [D.tupN] at this
          | cons y q => exact ⟨y.py, pys q, by simp [D.py, pys]⟩
        | _ => rw [hb] at this; simp [D.tupN] at this
      · refine .inr fun d1 h1 => ?_
        rw [List.map_map] at h1
        obtain ⟨b1, m1, rfl⟩ := List.mem_map.mp h1
        have := hso _ (hmem b1 m1)
        show b1.2.py ≠ .none ∧ ∀ xs, b1.2.py ≠ .tuple xs
        cases hb : b1.2 <;> rw [hb] at this <;> simp [D.oth] at this <;> simp [D.py]
    · obtain ⟨c, hc, rfl⟩ := List.mem_map.mp hb
      exact (hall _ (hmem c hc)).1.2
    · have e1 : ((xs.zip l).map fun b => (b.1, b.2.py)).mergeSort (PySem.W.dataLe false (·.2)) = ((xs.zip l).mergeSort (PySem.W.dataLe false fun b : V × D => b.2.py)).map fun b => (b.1, b.2.py) :=
        (PySem.W.sort_maps (fun b : V × D => (b.1, b.2.py)) fun a _ b _ => rfl).symm
      have e2 : sortD l = ((xs.zip l).mergeSort (PySem.W.dataLe false fun b : V × D => b.2.py)).map (·.2) := by
        have := PySem.W.sort_maps (l := xs.zip l) (r := PySem.W.dataLe false fun b : V × D => b.2.py) (s := PySem.W.dataLe false D.py) (·.2) fun a _ b _ => rfl
        rw [this, hz2]
        rfl
      rw [e1, List.map_map]
      rw [e2] at g
      refine g.new' rm hq ?_
      refine Rvs.ofPairs _ fun b hb => rvs.zips b ?_
      exact (List.mergeSort_perm _ _).mem_iff.mp hb
  · rw [if_neg hok] at hd; cases hd
/-! ### new objects in a bunch -/
abbrev Wd.puts (w : Wd) (H : Hp) : Wd := { w with H := H }
theorem Fr.puts {K : PySem.W.Frag} {cn : Cn} {w : Wd} (rm : RM K cn w) {H : Hp} (h : ∀ a o, w.H a = some o → H a = some o) : Fr w (w.puts H) :=
  ⟨⟨⟨[], by simp⟩, fun a o e n x _ => ⟨h a o e, n, x⟩⟩, rfl, fun a ha => by obtain ⟨o, e, _⟩ := rm.domX a ha; rw [e]; exact h a o e⟩
theorem RM.puts {K : PySem.W.Frag} {cn : Cn} {w : Wd} (rm : RM K cn w) {H : Hp} (h : ∀ a o, w.H a = some o → H a = some o) : RM K cn (w.puts H) :=
  ⟨rm.len, rm.nd, fun a ha => by obtain ⟨o, e, n⟩ := rm.dom a ha; exact ⟨o, h a o e, n⟩, fun a ha => by obtain ⟨o, e, n⟩ := rm.domX a ha; exact ⟨o, h a o e, n⟩, rm.apart,
    fun n c a hc ha => (rm.cell n c a hc ha).mono (Fr.puts rm h).wk (by obtain ⟨o, e, _⟩ := rm.dom a (List.mem_of_getElem? ha); rw [e]; exact h a o e), rm.tabs.ext h⟩
theorem Rvs.ofGet {K : PySem.W.Frag} {w : Wd} : ∀ {vs : List V} {ds : List D}, vs.length = ds.length → (∀ (i : Nat) (v : V) (d : D), vs[i]? = some v → ds[i]? = some d → Rv K w v d) → Rvs K w vs ds
  | [], [], _, _ => .nil
  | v :: vs, d :: ds, h, k => .cons (k 0 v d rfl rfl) (Rvs.ofGet (by simpa using h) fun i v d h1 h2 => k (i + 1) v d (by simpa using h1) (by simpa using h2))
  | [], _ :: _, h, _ => by simp at h
  | _ :: _, [], h, _ => by simp at h
theorem zipD_len : ∀ (l r : List D), (zipD l r).length = min l.length r.length
  | [], r => by cases r <;> simp [zipD]
  | a :: l, [] => by simp [zipD]
  | a :: l, b :: r => by simp [zipD, zipD_len l r]
theorem zipD_get : ∀ {l r : List D} {j : Nat} {d : D}, (zipD l r)[j]? = some d → ∃ a b, l[j]? = some a ∧ r[j]? = some b ∧ d = .tup [a, b]
  | [], r, j, d, h => by cases r <;> simp [zipD] at h
  | a :: l, [], j, d, h => by simp [zipD] at h
  | a :: l, b :: r, 0, d, h => by simp [zipD] at h; exact ⟨a, b, rfl, rfl, h.symm⟩
  | a :: l, b :: r, j + 1, d, h => by
    simp only [zipD, List.getElem?_cons_succ] at h
    obtain ⟨x, y, h1, h2, h3⟩ := zipD_get h
    exact ⟨x, y, by simpa using h1, by simpa using h2, h3⟩
theorem R.assoc {α β γ : Type} {r : R α} {f : α → Mem → R β} {g : β → Mem → R γ} : (r.bind f).bind g = r.bind fun a m => (f a m).bind g := by cases r <;> rfl
theorem evs2 {G : Str → Option D} {cl : Str → List D → Mem → R D} {a b : E} {s : Sl} {m : Mem} {α : Type} {f : List D → Mem → R α} : ((evs G cl (.cons a (.cons b .nil)) s m).bind f) = (ev G cl a s m).bind fun x m => (ev G cl b s m).bind fun y m => f [x, y] m := by
  rw [evs, R.assoc]
  congr 1
  funext x m
  rw [R.assoc, evs, R.assoc]
  congr 1
theorem evs1 {G : Str → Option D} {cl : Str → List D → Mem → R D} {a : E} {s : Sl} {m : Mem} {α : Type} {f : List D → Mem → R α} : ((evs G cl (.cons a .nil) s m).bind f) = (ev G cl a s m).bind fun x m => f [x] m := by
  rw [evs, R.assoc]
  congr 1
theorem Rv.pair {K : PySem.W.Frag} {cn : Cn} {w : Wd} (rm : RM K cn w) {H : Hp} (h : ∀ a o, w.H a = some o → H a = some o) {T : Addr} {x y : V} {dx dy : D} (h0 : w.H T = none) (hT : H T = some (.tup [x, y])) (rx : Rv K w x dx) (ry : Rv K w y dy) : Rv K (w.puts H) (.ref T) (.tup [dx, dy]) :=
  .tup (.inl ⟨.inl hT, notlive (rm.notM h0), rm.notX h0⟩) (.cons (rx.mono (Fr.puts rm h).wk) (.cons (ry.mono (Fr.puts rm h).wk) .nil))
/-- list(zip(x, y)), two tuples -/
theorem sn_zp {b' : E} {p p2 q : Pos} (hc : X.calm = true) (hg : Gl X "list") (hm : X.mg "list" = none) (hg2 : Gl X "zip") (hm2 : X.mg "zip" = none) (ha : PA X [e1, e2] (eA X Z W (.cons a (.cons b' .nil))))
    (hs : starEach [e1, e2] X.env = (false, eval e1 X.env) :: starEach [e2] X.env) (hpl : (backTo q (starEach [e2] X.env)).any (·.1) = false) :
    PE X (.Call (.Name "list" p) [.Call (.Name "zip" p2) [e1, e2] [] q] [] pos) (eN X Z W (.zp a b')) :=
  pe_imp (pe_lzip hc hg hm hg2 hm2 ha hs hpl) fun σ H Q ⟨w, s, hw, rm, rs, p⟩ => by
    subst hw
    rw [evN, ← evs2 (f := fun ds m => opt m (semZT ds))] at p
    refine ⟨w, s, rfl, rm, rs, p.splitN rm fun ds w1 vs rm1 fr rvs p1 => ?_⟩
    obtain ⟨zs, hz, g⟩ := p1.opt
    unfold semZT at hz
    split at hz
    · rename_i l r
      split at hz
      · cases hz
        obtain ⟨x, y, rfl, rx, ry⟩ := rvs.two
        cases rx with
        | tup fa ra =>
          cases ry with
          | tup fb rb =>
            refine ⟨_, _, _, _, rfl, fa.sq, fb.sq, fun N L zs ⟨h1, h2, h3, h4, h5⟩ => ?_⟩
            have hk : ∀ a o, w1.H a = some o → ups w1.H N a = some o := fun a o e => ups_old (fun a o h => (h1 a o h).1) e
            have hL : ups w1.H N L = none := by rw [ups_none h3]; exact h2
            refine Grown.new (w1 := w1.puts (ups w1.H N)) g rm1 (rm1.puts hk) rfl (Fr.puts rm1 hk) hL (Rvs.ofGet ?_ fun i v d hv hd => ?_)
            · rw [h4, zipD_len, ra.length, rb.length]
            · obtain ⟨T, x, y, rfl, hT, hx, hy⟩ := h5 i v hv
              obtain ⟨dx, dy, hdx, hdy, rfl⟩ := zipD_get hd
              obtain ⟨v1, e1, r1⟩ := ra.get hdx
              obtain ⟨v2, e2, r2⟩ := rb.get hdy
              rw [hx] at e1
              rw [hy] at e2
              cases e1
              cases e2
              exact Rv.pair rm1 hk (h1 _ _ hT).1 (ups_some hT) r1 r2
      · cases hz
    · cases hz
/-! ### walks -/
theorem serves_range {K : PySem.W.Frag} {cn : Cn} {lo : Int} {n : Nat} {w : Wd} : Serves K cn (Itr lo n) (rngs lo n 1) w := by
  have hl : (rngs lo n 1).length = n := by simp [rngs]
  refine ⟨fun w i rm f hi => ⟨by rw [hl] at hi; exact hi, fun v H' ⟨e1, e2⟩ => ?_⟩, fun w rm f => by rw [hl]; exact Nat.le_refl _⟩
  rw [hl] at hi
  subst e1 e2
  refine ⟨w, .int (lo + i), rfl, rfl, rm, Fr.refl w, ?_, .int _⟩
  unfold rngs
  rw [List.getElem?_map, List.getElem?_range hi]
  simp
theorem serves_rangeC {K : PySem.W.Frag} {cn : Cn} {lo c : Int} {n : Nat} {w : Wd} : Serves K cn (Itc lo c n) (rngs lo n c) w := by
  have hl : (rngs lo n c).length = n := by simp [rngs]
  refine ⟨fun w i rm f hi => ⟨by rw [hl] at hi; exact hi, fun v H' ⟨e1, e2⟩ => ?_⟩, fun w rm f => by rw [hl]; exact Nat.le_refl _⟩
  rw [hl] at hi
  subst e1 e2
  refine ⟨w, .int (lo + i * c), rfl, rfl, rm, Fr.refl w, ?_, .int _⟩
  unfold rngs
  rw [List.getElem?_map, List.getElem?_range hi]
  simp
theorem serves_list {K : PySem.W.Frag} {cn : Cn} {a : Addr} {xs : List V} {ds : List D} {w : Wd} (f0 : FzL w a xs) (r0 : Rvs K w xs ds) : Serves K cn (Itl K a) ds w := by
  refine ⟨fun w i rm f hi => ?_, fun w rm f => ⟨xs, (f0.mono f).sq, by rw [r0.length]; exact Nat.le_refl _⟩⟩
  have sq : SqL K w.H a xs := (f0.mono f).sq
  have hd : ds[i]? = some ds[i] := List.getElem?_eq_getElem hi
  obtain ⟨v, hv, rv⟩ := (r0.mono f).get hd
  exact ⟨⟨xs, v, sq, hv⟩, fun v' H' ⟨e1, e2⟩ => by
    subst e1
    rw [e2 xs sq] at hv
    cases hv
    exact ⟨w, ds[i], rfl, rfl, rm, Fr.refl w, hd, rv⟩⟩
theorem serves_scr {K : PySem.W.Frag} {cn : Cn} {a : Addr} {xs : List V} {ds : List D} {w : Wd} (f0 : FzS K w a xs) (r0 : Rvs K w xs ds) : Serves K cn (Itl K a) ds w := by
  refine ⟨fun w i rm f hi => ?_, fun w rm f => ⟨xs, (f0.mono f).sq, by rw [r0.length]; exact Nat.le_refl _⟩⟩
  have sq : SqL K w.H a xs := (f0.mono f).sq
  have hd : ds[i]? = some ds[i] := List.getElem?_eq_getElem hi
  obtain ⟨v, hv, rv⟩ := (r0.mono f).get hd
  exact ⟨⟨xs, v, sq, hv⟩, fun v' H' ⟨e1, e2⟩ => by
    subst e1
    rw [e2 xs sq] at hv
    cases hv
    exact ⟨w, ds[i], rfl, rfl, rm, Fr.refl w, hd, rv⟩⟩
theorem serves_tup {K : PySem.W.Frag} {cn : Cn} {a : Addr} {xs : List V} {ds : List D} {w : Wd} (f0 : FzT K w a xs) (r0 : Rvs K w xs ds) : Serves K cn (Itt K a) ds w := by
  refine ⟨fun w i rm f hi => ?_, fun w rm f => ⟨xs, (f0.mono f).sq, by rw [r0.length]; exact Nat.le_refl _⟩⟩
  have sq : SqT K w.H a xs := (f0.mono f).sq
  have hd : ds[i]? = some ds[i] := List.getElem?_eq_getElem hi
  obtain ⟨v, hv, rv⟩ := (r0.mono f).get hd
  exact ⟨⟨xs, v, sq, hv⟩, fun v' H' ⟨e1, e2⟩ => by
    subst e1
    rw [e2 xs sq] at hv
    cases hv
    exact ⟨w, ds[i], rfl, rfl, rm, Fr.refl w, hd, rv⟩⟩

theorem serves_zipT {K : PySem.W.Frag} {cn : Cn} {a b : Addr} {xs ys : List V} {ds es : List D} {w : Wd} (f1 : FzT K w a xs) (r1 : Rvs K w xs ds) (f2 : FzT K w b ys) (r2 : Rvs K w ys es) : Serves K cn (RZ.ItzT K a b) (zipD ds es) w := by
  refine ⟨fun w i rm f hi => ?_, fun w rm f => ⟨xs, ys, (f1.mono f).sq, (f2.mono f).sq, ?_⟩⟩
  · have s1 : SqT K w.H a xs := (f1.mono f).sq
    have s2 : SqT K w.H b ys := (f2.mono f).sq
    have hd := List.getElem?_eq_getElem hi
    obtain ⟨x, y, hx, hy, e⟩ := zipD_get hd
    obtain ⟨u, hu, ru⟩ := (r1.mono f).get hx
    obtain ⟨v, hv, rv⟩ := (r2.mono f).get hy
    refine ⟨⟨xs, ys, u, v, s1, s2, hu, hv⟩, fun v' H' ⟨T, u', v'', e1, hT, e2, k1, k2⟩ => ?_⟩
    subst e1 e2
    have e1 := k1 xs s1
    have e2 := k2 ys s2
    rw [hu] at e1
    rw [hv] at e2
    cases e1
    cases e2
    refine ⟨w.put T (.tup [u, v]), _, rfl, rfl, rm.put hT, Fr.put rm hT, hd, ?_⟩
    rw [e]
    exact Rv.newTup rm hT (.cons ru (.cons rv .nil))
  · rw [zipD_len, r1.length, r2.length]
    omega
theorem serves_zipL {K : PySem.W.Frag} {cn : Cn} {a b : Addr} {xs ys : List V} {ds es : List D} {w : Wd} (f1 : FzL w a xs) (r1 : Rvs K w xs ds) (f2 : FzL w b ys) (r2 : Rvs K w ys es) : Serves K cn (Itz K a b) (zipD ds es) w := by
  refine ⟨fun w i rm f hi => ?_, fun w rm f => ⟨xs, ys, (f1.mono f).sq, (f2.mono f).sq, ?_⟩⟩
  · have s1 : SqL K w.H a xs := (f1.mono f).sq
    have s2 : SqL K w.H b ys := (f2.mono f).sq
    have hd := List.getElem?_eq_getElem hi
    obtain ⟨x, y, hx, hy, e⟩ := zipD_get hd
    obtain ⟨u, hu, ru⟩ := (r1.mono f).get hx
    obtain ⟨v, hv, rv⟩ := (r2.mono f).get hy
    refine ⟨⟨xs, ys, u, v, s1, s2, hu, hv⟩, fun v' H' ⟨T, u', v'', e1, hT, e2, k1, k2⟩ => ?_⟩
    subst e1 e2
    have e1 := k1 xs s1
    have e2 := k2 ys s2
    rw [hu] at e1
    rw [hv] at e2
    cases e1
    cases e2
    refine ⟨w.put T (.tup [u, v]), _, rfl, rfl, rm.put hT, Fr.put rm hT, hd, ?_⟩
    rw [e]
    exact Rv.newTup rm hT (.cons ru (.cons rv .nil))
  · rw [zipD_len, r1.length, r2.length]
    omega
theorem zipD3_len : ∀ (l r q : List D), (zipD3 l r q).length = min (min l.length r.length) q.length
  | [], r, q => by simp [zipD3]
  | a :: l, [], q => by simp [zipD3]
  | a :: l, b :: r, [] => by simp [zipD3]
  | a :: l, b :: r, c :: q => by
    simp only [zipD3, List.length_cons, zipD3_len l r q]
    omega
theorem zipD3_get : ∀ {l r q : List D} {j : Nat} {d : D}, (zipD3 l r q)[j]? = some d → ∃ a b c, l[j]? = some a ∧ r[j]? = some b ∧ q[j]? = some c ∧ d = .tup [a, b, c]
  | [], r, q, j, d, h => by simp [zipD3] at h
  | a :: l, [], q, j, d, h => by simp [zipD3] at h
  | a :: l, b :: r, [], j, d, h => by simp [zipD3] at h
  | a :: l, b :: r, c :: q, 0, d, h => by
    simp [zipD3] at h
    exact ⟨a, b, c, rfl, rfl, rfl, h.symm⟩
  | a :: l, b :: r, c :: q, j + 1, d, h => by
    simp only [zipD3, List.getElem?_cons_succ] at h
    obtain ⟨x, y, z, h1, h2, h3, h4⟩ := zipD3_get h
    exact ⟨x, y, z, by simpa using h1, by simpa using h2, by simpa using h3, h4⟩
theorem serves_zip3 {K : PySem.W.Frag} {cn : Cn} {a b c : Addr} {xs ys zs : List V} {ds es gs : List D} {w : Wd} (f1 : FzL w a xs) (r1 : Rvs K w xs ds) (f2 : FzL w b ys) (r2 : Rvs K w ys es) (f3 : FzL w c zs) (r3 : Rvs K w zs gs) :
    Serves K cn (Itz3 K a b c) (zipD3 ds es gs) w := by
  refine ⟨fun w i rm f hi => ?_, fun w rm f => ⟨xs, ys, zs, (f1.mono f).sq, (f2.mono f).sq, (f3.mono f).sq, ?_, ?_, ?_, ?_⟩⟩
  · have s1 : SqL K w.H a xs := (f1.mono f).sq
    have s2 : SqL K w.H b ys := (f2.mono f).sq
    have s3 : SqL K w.H c zs := (f3.mono f).sq
    have hd := List.getElem?_eq_getElem hi
    obtain ⟨x, y, z, hx, hy, hz, e⟩ := zipD3_get hd
    obtain ⟨u, hu, ru⟩ := (r1.mono f).get hx
    obtain ⟨v, hv, rv⟩ := (r2.mono f).get hy
    obtain ⟨t, ht, rt⟩ := (r3.mono f).get hz
    refine ⟨⟨xs, ys, zs, u, v, t, s1, s2, s3, hu, hv, ht⟩, fun v' H' ⟨T, u', v'', t', e1, hT, e2, k1, k2, k3⟩ => ?_⟩
    subst e1 e2
    have e1 := k1 xs s1
    have e2 := k2 ys s2
    have e3 := k3 zs s3
    rw [hu] at e1
    rw [hv] at e2
    rw [ht] at e3
    cases e1
    cases e2
    cases e3
    refine ⟨w.put T (.tup [u, v, t]), _, rfl, rfl, rm.put hT, Fr.put rm hT, hd, ?_⟩
    rw [e]
    exact Rv.newTup rm hT (.cons ru (.cons rv (.cons rt .nil)))
  all_goals
    rw [zipD3_len]
    have e1 := r1.length
    have e2 := r2.length
    have e3 := r3.length
    omega
theorem enumD_len : ∀ (l : List D) (n : Nat), (enumD n l).length = l.length
  | [], n => rfl
  | a :: l, n => by simp [enumD, enumD_len l]
theorem enumD_get : ∀ {l : List D} {n j : Nat} {d : D}, (enumD n l)[j]? = some d → ∃ a, l[j]? = some a ∧ d = .tup [.int ((n + j : Nat) : Int), a]
  | [], n, j, d, h => by simp [enumD] at h
  | a :: l, n, 0, d, h => by simp [enumD] at h; exact ⟨a, rfl, by rw [← h]; rfl⟩
  | a :: l, n, j + 1, d, h => by
    simp only [enumD, List.getElem?_cons_succ] at h
    obtain ⟨x, h1, h2⟩ := enumD_get h
    refine ⟨x, by simpa using h1, ?_⟩
    rw [h2]
    congr 2
    congr 1
    omega
theorem serves_enum {K : PySem.W.Frag} {cn : Cn} {a : Addr} {xs : List V} {ds : List D} {w : Wd} (f1 : FzL w a xs) (r1 : Rvs K w xs ds) : Serves K cn (Ite K a) (enumD 0 ds) w := by
  refine ⟨fun w i rm f hi => ?_, fun w rm f => ⟨xs, (f1.mono f).sq, ?_⟩⟩
  · have s1 : SqL K w.H a xs := (f1.mono f).sq
    have hd := List.getElem?_eq_getElem hi
    obtain ⟨x, hx, e⟩ := enumD_get hd
    obtain ⟨u, hu, ru⟩ := (r1.mono f).get hx
    refine ⟨⟨xs, u, s1, hu⟩, fun v' H' ⟨T, u', e1, hT, e2, k1⟩ => ?_⟩
    subst e1 e2
    have e1 := k1 xs s1
    rw [hu] at e1
    cases e1
    refine ⟨w.put T (.tup [.int (i : Nat), u]), _, rfl, rfl, rm.put hT, Fr.put rm hT, hd, ?_⟩
    rw [e, Nat.zero_add]
    exact Rv.newTup rm hT (.cons (.int _) (.cons ru .nil))
  · rw [enumD_len, r1.length]
    exact Nat.le_refl _
theorem serves_enumT {K : PySem.W.Frag} {cn : Cn} {a : Addr} {xs : List V} {ds : List D} {w : Wd} (f1 : FzT K w a xs) (r1 : Rvs K w xs ds) : Serves K cn (IteT K a) (enumD 0 ds) w := by
  refine ⟨fun w i rm f hi => ?_, fun w rm f => ⟨xs, (f1.mono f).sq, ?_⟩⟩
  · have s1 : SqT K w.H a xs := (f1.mono f).sq
    have hd := List.getElem?_eq_getElem hi
    obtain ⟨x, hx, e⟩ := enumD_get hd
    obtain ⟨u, hu, ru⟩ := (r1.mono f).get hx
    refine ⟨⟨xs, u, s1, hu⟩, fun v' H' ⟨T, u', e1, hT, e2, k1⟩ => ?_⟩
    subst e1 e2
    have e1 := k1 xs s1
    rw [hu] at e1
    cases e1
    refine ⟨w.put T (.tup [.int (i : Nat), u]), _, rfl, rfl, rm.put hT, Fr.put rm hT, hd, ?_⟩
    rw [e, Nat.zero_add]
    exact Rv.newTup rm hT (.cons (.int _) (.cons ru .nil))
  · rw [enumD_len, r1.length]
    exact Nat.le_refl _
theorem post_it {K : PySem.W.Frag} {cn : Cn} {J : L2.It} {items : List D} {Q : L2.It → Hp → Prop} {w : Wd} (rm : RM K cn w) (q : ∀ (w' : Wd) (b : L2.It), w'.m = w.m → RM K cn w' → Fr w w' → (Serves K cn b items w' ∧ items.length ≤ lim) → Q b w'.H) (s : Serves K cn J items w) (hl : items.length ≤ lim) : Q J w.H :=
  q w J rfl rm (Fr.refl w) ⟨s, hl⟩
variable {tg : Expr}
theorem si_range1 {p : Pos} (hg : Gl X "range") (hm : X.mg "range" = none) (ha : PA X [e] (eA X Z W as)) (hs : starEach [e] X.env = [(false, eval e X.env)]) (hl : as.len = 1) : PI X tg (.Call (.Name "range" p) [e] [] pos) (eI X Z W (.rng as)) :=
  pi_imp (pi_range1 hg hm ha hs) fun σ H Q ⟨w, s, hw, rm, rs, p⟩ => by
    subst hw
    rw [evI] at p
    refine ⟨w, s, rfl, rm, rs, ?_⟩
    have hlen : ∀ ds m, evs Z.G Z.cl as s w.m = .ok ds m → ds.length = 1 := fun ds m h => by rw [evs_len h, hl]
    cases hr : evs Z.G Z.cl as s w.m with
    | err => rw [hr] at p; exact p
    | exc x m => rw [hr] at p; exact p
    | ok ds m =>
      rw [hr] at p
      have h1 := hlen ds m hr
      intro w1 vs hm rm1 fr hv
      have p2 : Post X.K Z.cn X.mg (fun w' J items => Serves X.K Z.cn J items w' ∧ items.length ≤ lim) Q (WE W σ) w (opt m (semR ds)) := p
      rw [← hm] at p2
      obtain ⟨items, hd, q⟩ := (p2.later fr).opt
      match ds, h1, hv, hd with
      | [d], _, hv, hd =>
        obtain ⟨v, rfl, rv⟩ := hv.one
        unfold semR at hd
        split at hd
        · rename_i j e
          cases e
          cases rv
          split at hd
          · rename_i hb
            cases hd
            unfold bnd at hb
            simp only [Bool.and_eq_true, decide_eq_true_eq] at hb
            refine ⟨j, rfl, hb.1, by omega, post_it rm1 q serves_range ?_⟩
            simp [rngs, lim]
            omega
          · cases hd
        · rename_i e; cases e
        · rename_i e; cases e
        · cases hd
theorem si_range2 {p : Pos} (hg : Gl X "range") (hm : X.mg "range" = none) (ha : PA X [e1, e2] (eA X Z W as)) (hs : starEach [e1, e2] X.env = [(false, eval e1 X.env), (false, eval e2 X.env)]) (hs2 : starEach [e2] X.env = [(false, eval e2 X.env)]) (hl : as.len = 2) : PI X tg (.Call (.Name "range" p) [e1, e2] [] pos) (eI X Z W (.rng as)) :=
  pi_imp (pi_range2 hg hm ha hs hs2) fun σ H Q ⟨w, s, hw, rm, rs, p⟩ => by
    subst hw
    rw [evI] at p
    refine ⟨w, s, rfl, rm, rs, ?_⟩
    have hlen : ∀ ds m, evs Z.G Z.cl as s w.m = .ok ds m → ds.length = 2 := fun ds m h => by rw [evs_len h, hl]
    cases hr : evs Z.G Z.cl as s w.m with
    | err => rw [hr] at p; exact p
    | exc x m => rw [hr] at p; exact p
    | ok ds m =>
      rw [hr] at p
      have h1 := hlen ds m hr
      intro w1 vs hm rm1 fr hv
      have p2 : Post X.K Z.cn X.mg (fun w' J items => Serves X.K Z.cn J items w' ∧ items.length ≤ lim) Q (WE W σ) w (opt m (semR ds)) := p
      rw [← hm] at p2
      obtain ⟨items, hd, q⟩ := (p2.later fr).opt
      match ds, h1, hv, hd with
      | [d, d'], _, hv, hd =>
        obtain ⟨v, v', rfl, rv, rv'⟩ := hv.two
        unfold semR at hd
        split at hd
        · rename_i e; cases e
        · rename_i i j e
          cases e
          cases rv
          cases rv'
          split at hd
          · rename_i hb
            cases hd
            unfold bnd at hb
            simp only [Bool.and_eq_true, decide_eq_true_eq] at hb
            refine ⟨i, j, rfl, ⟨by omega, by omega, by omega, by omega⟩, post_it rm1 q serves_range ?_⟩
            simp only [rngs, List.length_map, List.length_range]
            omega
          · cases hd
        · rename_i e; cases e
        · cases hd
theorem Rvs.three {K : PySem.W.Frag} {w : Wd} {xs : List V} {d d' d'' : D} (r : Rvs K w xs [d, d', d'']) : ∃ v v' v'', xs = [v, v', v''] ∧ Rv K w v d ∧ Rv K w v' d' ∧ Rv K w v'' d'' := by
  cases r with
  | cons r t =>
    obtain ⟨v', v'', rfl, r', r''⟩ := t.two
    exact ⟨_, _, _, rfl, r, r', r''⟩
theorem rangeSize_two (a b : Int) : Builtin.Range.rangeSize a b 2 = (((b - a + 1) / 2).toNat : Nat) := by
  unfold Builtin.Range.rangeSize
  simp only [show (2 : Int) > 0 by decide, if_true]
  split <;> omega
theorem si_range3 {p : Pos} (hg : Gl X "range") (hm : X.mg "range" = none) (ha : PA X [e1, e2, e3] (eA X Z W as)) (hs : starEach [e1, e2, e3] X.env = (false, eval e1 X.env) :: starEach [e2, e3] X.env) (hpl : (backTo pos (starEach [e2, e3] X.env)).any (·.1) = false) (hl : as.len = 3) :
    PI X tg (.Call (.Name "range" p) [e1, e2, e3] [] pos) (eI X Z W (.rng as)) :=
  pi_imp (pi_range3 hg hm ha hs hpl) fun σ H Q ⟨w, s, hw, rm, rs, p⟩ => by
    subst hw
    rw [evI] at p
    refine ⟨w, s, rfl, rm, rs, ?_⟩
    have hlen : ∀ ds m, evs Z.G Z.cl as s w.m = .ok ds m → ds.length = 3 := fun ds m h => by rw [evs_len h, hl]
    cases hr : evs Z.G Z.cl as s w.m with
    | err => rw [hr] at p; exact p
    | exc x m => rw [hr] at p; exact p
    | ok ds m =>
      rw [hr] at p
      have h1 := hlen ds m hr
      intro w1 vs hm rm1 fr hv
      have p2 : Post X.K Z.cn X.mg (fun w' J items => Serves X.K Z.cn J items w' ∧ items.length ≤ lim) Q (WE W σ) w (opt m (semR ds)) := p
      rw [← hm] at p2
      obtain ⟨items, hd, q⟩ := (p2.later fr).opt
      match ds, h1, hv, hd with
      | [d, d', d''], _, hv, hd =>
        obtain ⟨v, v', v'', rfl, rv, rv', rv''⟩ := hv.three
        unfold semR at hd
        split at hd
        · rename_i e; cases e
        · rename_i e; cases e
        · rename_i i j c e
          cases e
          cases rv
          cases rv'
          cases rv''
          split at hd
          · rename_i hb
            cases hd
            unfold bnd at hb
            simp only [Bool.and_eq_true, decide_eq_true_eq] at hb
            obtain ⟨⟨⟨hi, hj⟩, hc⟩, hn⟩ := hb
            subst hc
            refine ⟨i, j, -1, _, rfl, RgC.neg (by omega) (by omega) (by omega) (by omega), post_it rm1 q serves_rangeC ?_⟩
            simp only [rngs, List.length_map, List.length_range]
            omega
          · split at hd
            · rename_i hb
              cases hd
              unfold bnd at hb
              simp only [Bool.and_eq_true, decide_eq_true_eq] at hb
              obtain ⟨⟨⟨hi, hj⟩, hc⟩, hn⟩ := hb
              subst hc
              refine ⟨i, j, 2, _, rfl, ?_, post_it rm1 q serves_rangeC ?_⟩
              · have e := rangeSize_two i j
                refine ⟨by decide, by decide, ?_, e⟩
                unfold Builtin.Range.small
                rw [e]
                simp only [Builtin.Range.rangeFitsLong, Bool.and_eq_true, Bool.or_eq_true, decide_eq_true_eq, beq_iff_eq, show (2 : Int) > 0 by decide, if_true]
                omega
              · simp only [rngs, List.length_map, List.length_range]
                omega
            · cases hd
        · cases hd

/-- over a list or a tuple -/
def iSeqA (K : PySem.W.Frag) (tl : TE) : TI := fun σ H R => tl σ H fun x H1 => ∃ a, x = .ref a ∧ (((∃ xs, SqL K H1 a xs) ∧ R (Itl K a) H1) ∨ ((∃ xs, SqT K H1 a xs) ∧ R (Itt K a) H1))
theorem pi_seqA {l : Expr} {tl : TE} (hl : PE X l tl) : PI X tg l (iSeqA X.K tl) := by
  refine ⟨fun pins s σ H R I h => ?_⟩
  refine thn (hl.run pins s σ H _ I h) fun v s1 ⟨x, H1, I1, r1, q1⟩ => ?_
  obtain ⟨a, e, q1⟩ := q1
  subst e
  cases r1
  rcases q1 with ⟨⟨xs, hq⟩, q⟩ | ⟨⟨xs, hq⟩, q⟩
  · obtain ⟨its, rv, p, hz⟩ := I1.list hq
    refine wpAny_pyIter_list p.isList ?_
    refine ⟨s1.heap.objs.size, [s1.heap.objs.size], _, _, H1, rfl, I1.kept (t' := s1.toks) fun b o e => Heap.get?_push_of_some _ e, turn_list a _, ⟨_, Heap.get?_push_size _ rfl, rfl, rfl⟩, fun b hb => ?_, q⟩
    have e : b = s1.heap.objs.size := by simpa using hb
    subst e
    exact I1.fpOk (Nat.le_refl _) (I1.hok.fresh (Nat.le_refl _))
  · obtain ⟨its, rv, p, hz⟩ := I1.tuple hq
    refine wpAny_pyIter_tuple (show s1.heap.IsTuple a its.toArray from p) ?_
    refine ⟨s1.heap.objs.size, [s1.heap.objs.size], _, _, H1, rfl, I1.kept (t' := s1.toks) fun b o e => Heap.get?_push_of_some _ e, turn_tuple a _, ⟨_, Heap.get?_push_size _ rfl, rfl, rfl⟩, fun b hb => ?_, q⟩
    have e : b = s1.heap.objs.size := by simpa using hb
    subst e
    exact I1.fpOk (Nat.le_refl _) (I1.hok.fresh (Nat.le_refl _))
theorem si_seq (ha : PE X e (eE X Z W a)) : PI X tg e (eI X Z W (.seq a)) :=
  pi_imp (pi_seqA ha) fun σ H Q ⟨w, s, hw, rm, rs, p⟩ => by
    subst hw
    rw [evI] at p
    refine ⟨w, s, rfl, rm, rs, p.split fun d w1 v rm1 fr rv p1 => ?_⟩
    obtain ⟨items, hd, q⟩ := p1.opt
    obtain ⟨l, hl, hd⟩ := Option.bind_eq_some_iff.mp (show (d.frz.bind fun l => if l.length ≤ lim then some l else none) = some items from hd)
    by_cases hn : l.length ≤ lim
    · rw [if_pos hn] at hd
      cases hd
      cases rv with
      | lst f r => cases hl; exact ⟨_, rfl, .inl ⟨⟨_, f.sq⟩, post_it rm1 q (serves_list f r) hn⟩⟩
      | tup f r => cases hl; exact ⟨_, rfl, .inr ⟨⟨_, f.sq⟩, post_it rm1 q (serves_tup f r) hn⟩⟩
      | _ => cases hl
    · rw [if_neg hn] at hd; cases hd
theorem evs_bind_len {α : Type} {as : Es} {s : Sl} {m : Mem} {f : List D → Mem → R α} : (evs Z.G Z.cl as s m).bind f = (evs Z.G Z.cl as s m).bind fun ds m => if ds.length = as.len then f ds m else .err := by
  cases hr : evs Z.G Z.cl as s m with
  | ok ds m' => simp [R.bind, evs_len hr]
  | exc x m => rfl
  | err => rfl
theorem si_zip {p tpos : Pos} {elts : List Expr} {kk : Nat} (hg : Gl X "zip") (hm : X.mg "zip" = none) (ha : PA X [e1, e2] (eA X Z W as)) (hs : starEach [e1, e2] X.env = (false, eval e1 X.env) :: starEach [e2] X.env) (hpl : (backTo pos (starEach [e2] X.env)).any (·.1) = false) (h2 : as.len = 2) :
    PI X (.Tuple elts kk tpos) (.Call (.Name "zip" p) [e1, e2] [] pos) (eI X Z W (.zip as)) :=
  pi_imp (RZ.pi_zipA hg hm ha hs hpl) fun σ H Q ⟨w, s, hw, rm, rs, p⟩ => by
    subst hw
    rw [evI, evs_bind_len, h2] at p
    refine ⟨w, s, rfl, rm, rs, p.split fun ds w1 vs rm1 fr rvs p1 => ?_⟩
    by_cases hl2 : ds.length = 2
    case neg => rw [if_neg hl2] at p1; exact p1.elim
    rw [if_pos hl2] at p1
    obtain ⟨items, hd, q⟩ := p1.opt
    unfold semZ at hd
    split at hd
    · simp at hl2
    · split at hd
      · rename_i hn
        cases hd
        obtain ⟨x, y, rfl, rx, ry⟩ := rvs.two
        cases rx with
        | tup fa ra =>
          cases ry with
          | tup fb rb => exact ⟨_, _, _, _, rfl, .inr ⟨fa.sq, fb.sq, post_it rm1 q (serves_zipT fa ra fb rb) (by rw [zipD_len]; omega)⟩⟩
      · cases hd
    · split at hd
      · rename_i hn
        cases hd
        obtain ⟨x, y, rfl, rx, ry⟩ := rvs.two
        cases rx with
        | lst fa ra =>
          cases ry with
          | lst fb rb => exact ⟨_, _, _, _, rfl, .inl ⟨fa.sq, fb.sq, post_it rm1 q (serves_zipL fa ra fb rb) (by rw [zipD_len]; omega)⟩⟩
      · cases hd
    · cases hd
theorem si_zip3 {p tpos : Pos} {elts : List Expr} {kk : Nat} (hg : Gl X "zip") (hm : X.mg "zip" = none) (ha : PA X [e1, e2, e3] (eA X Z W as)) (hs : starEach [e1, e2, e3] X.env = (false, eval e1 X.env) :: starEach [e2, e3] X.env) (hpl : (backTo pos (starEach [e2, e3] X.env)).any (·.1) = false) (h3 : as.len = 3) :
    PI X (.Tuple elts kk tpos) (.Call (.Name "zip" p) [e1, e2, e3] [] pos) (eI X Z W (.zip as)) :=
  pi_imp (pi_zip3 hg hm ha hs hpl) fun σ H Q ⟨w, s, hw, rm, rs, p⟩ => by
    subst hw
    rw [evI, evs_bind_len, h3] at p
    refine ⟨w, s, rfl, rm, rs, p.split fun ds w1 vs rm1 fr rvs p1 => ?_⟩
    by_cases hl3 : ds.length = 3
    case neg => rw [if_neg hl3] at p1; exact p1.elim
    rw [if_pos hl3] at p1
    obtain ⟨items, hd, q⟩ := p1.opt
    unfold semZ at hd
    split at hd
    · split at hd
      · rename_i hn
        cases hd
        obtain ⟨x, y, z, rfl, rx, ry, rz⟩ := rvs.three
        cases rx with
        | lst fa ra =>
          cases ry with
          | lst fb rb =>
            cases rz with
            | lst fc rc => exact ⟨_, _, _, _, _, _, rfl, fa.sq, fb.sq, fc.sq, post_it rm1 q (serves_zip3 fa ra fb rb fc rc) (by rw [zipD3_len]; omega)⟩
      · cases hd
    · simp at hl3
    · simp at hl3
    · cases hd
theorem si_enum {p tpos : Pos} {elts : List Expr} {kk : Nat} (hg : Gl X "enumerate") (hm : X.mg "enumerate" = none) (ha : PA X [e] (eA X Z W (.cons a .nil))) (hs : starEach [e] X.env = [(false, eval e X.env)]) :
    PI X (.Tuple elts kk tpos) (.Call (.Name "enumerate" p) [e] [] pos) (eI X Z W (.enum a)) :=
  pi_imp (pi_enumA hg hm ha hs) fun σ H Q ⟨w, s, hw, rm, rs, p⟩ => by
    subst hw
    rw [evI] at p
    refine ⟨w, s, rfl, rm, rs, ?_⟩
    rw [← evs1 (f := fun ds m => opt m (match ds with
      | [x] => semE x
      | _ => none))] at p
    refine p.split fun ds w1 vs rm1 fr rvs p1 => ?_
    obtain ⟨items, hd, q⟩ := p1.opt
    match ds, rvs, hd with
    | [d], rvs, hd =>
      obtain ⟨v, rfl, rv⟩ := rvs.one
      have hd : semE d = some items := hd
      unfold semE at hd
      split at hd
      · split at hd
        · rename_i hn
          cases hd
          cases rv with
          | lst f r => exact ⟨_, _, rfl, .inl ⟨f.sq, post_it rm1 q (serves_enum f r) (by rw [enumD_len]; exact hn)⟩⟩
        · cases hd
      · split at hd
        · rename_i hn
          cases hd
          cases rv with
          | tup f r => exact ⟨_, _, rfl, .inr ⟨f.sq, post_it rm1 q (serves_enumT f r) (by rw [enumD_len]; exact hn)⟩⟩
        · cases hd
      · cases hd
/-! ### list comprehensions -/
/-- the growing list at D, beside all that stood before -/
structure Fg (D : Addr) (w0 w : Wd) : Prop where
  pre : ∃ more, w.M = w0.M ++ more
  ex : w.X = D :: w0.X
  old : ∀ a o, w0.H a = some o → ¬ w0.live a → a ∉ w0.X → (∀ ps, o ≠ .tbl ps) → w.H a = some o ∧ ¬ w.live a
  keep : ∀ a, a ∈ w0.X → w.H a = w0.H a
section
variable {K : PySem.W.Frag} {cn : Cn} {w0 w w' : Wd} {D : Addr}
theorem Fg.start (rm : RM K cn w0) (h : w0.H D = none) : Fg D w0 (w0.grow D []) :=
  ⟨⟨[], by simp⟩, rfl, fun a o e n x _ => ⟨(upd_ne (ne_of_none e h)).trans e, n⟩, fun a ha => upd_ne (fun z : a = D => rm.notX h (z ▸ ha))⟩
theorem Fg.step (h : w0.H D = none) (g : Fg D w0 w) (f : Fr w w') : Fg D w0 w' := by
  obtain ⟨x, hx⟩ := g.pre
  obtain ⟨y, hy⟩ := f.wk.pre
  refine ⟨⟨x ++ y, by rw [hy, hx, List.append_assoc]⟩, f.same.trans g.ex, fun a o e n nx nt => ?_, fun a ha => (f.keep a (by rw [g.ex]; exact List.mem_cons_of_mem _ ha)).trans (g.keep a ha)⟩
  obtain ⟨h1, h2⟩ := g.old a o e n nx nt
  obtain ⟨k1, k2, _⟩ := f.wk.old a o h1 h2 (by rw [g.ex]; simp [ne_of_none e h, nx]) nt
  exact ⟨k1, k2⟩
theorem Fg.regrow (rm : RM K cn w0) (h : w0.H D = none) (g : Fg D w0 w) {xs : List V} : Fg D w0 (w.regrow D xs) :=
  ⟨g.pre, g.ex, fun a o e n nx nt => by obtain ⟨h1, h2⟩ := g.old a o e n nx nt; exact ⟨(upd_ne (ne_of_none e h)).trans h1, h2⟩, fun a ha => (upd_ne (fun z : a = D => rm.notX h (z ▸ ha))).trans (g.keep a ha)⟩
theorem Fg.fw (h : w0.H D = none) (g : Fg D w0 w) : Fw w0 w :=
  ⟨g.pre, fun a o e n nx nt => by obtain ⟨h1, h2⟩ := g.old a o e n nx nt; exact ⟨h1, h2, by rw [g.ex]; simp [ne_of_none e h, nx]⟩⟩
theorem Fg.fr (g : Fg D w0 w) : Fr w0 (w.ungrow w0.X) :=
  ⟨⟨g.pre, fun a o e n nx nt => by obtain ⟨h1, h2⟩ := g.old a o e n nx nt; exact ⟨h1, h2, nx⟩⟩, rfl, g.keep⟩
end
def compF (G : Str → Option D) (cl : Str → List D → Mem → R D) (elt : E) (tp : Bool) (vs : List Nat) (c : E) (s : Sl) : D → Mem → R (Option D) := fun d m => match asgN tp vs d (wipeS s vs) with
  | none => .err
  | some s1 => (if c.isNop then .ok true m else tst (ev G cl c s1 m)).bind fun b m => if b then (ev G cl elt s1 m).bind fun y m => .ok (some y) m else .ok none m
abbrev W0 : WX := fun _ _ _ _ => False
def ttOf (X : Cx) (Z : Ec) (c : E) : TT := if c.isNop then tYes else eT X Z W0 c

theorem evN_comp {G : Str → Option D} {cl : Str → List D → Mem → R D} {elt c : E} {tp : Bool} {vs : List Nat} {it : It} {s : Sl} {m : Mem} :
    evN G cl (.comp elt tp vs it c) s m = (evI G cl it s m).bind fun items m => compL (compF G cl elt tp vs c s) items [] m := by
  rw [evN]
  rfl
theorem lc_sound {it : It} {vs : List Nat} {tp : Bool} {σ : L2.St} {H : Hp} {Q : VK} (h : eN X Z W (.comp a tp vs it c) σ H Q) : tLc (eI X Z W it) (gT X.K tp vs) (ttOf X Z c) (eE X Z W0 a) vs σ H Q := by
  obtain ⟨w, s, hw, rm, rs, p⟩ := h
  subst hw
  rw [evN_comp] at p
  refine ⟨w, s, rfl, rm, rs, p.splitN rm fun items w0 J rm0 fr0 ⟨sv, hlim⟩ p0 D hD => ?_⟩
  have rs0 := rs.mono fr0.wk
  generalize hR : compL (compF Z.G Z.cl a tp vs c s) items [] w0.m = R0 at p0
  refine ⟨fun i m' H => m' = items.length - i ∧ i ≤ items.length ∧ ∃ (wi : Wd) (acc : List LR.D) (accV : List V), wi.H = H ∧ RM X.K Z.cn wi ∧ Fg D w0 wi ∧ H D = some (.lst accV) ∧ Rvs X.K wi accV acc ∧ acc.length ≤ i ∧ compL (compF Z.G Z.cl a tp vs c s) (items.drop i) acc wi.m = R0,
    ⟨items.length, by simp, Nat.zero_le _, w0.grow D [], [], [], rfl, rm0.grow hD, Fg.start rm0 hD, upd_same, .nil, Nat.zero_le _, hR⟩, ?_⟩
  rintro i m' H ⟨rfl, hi, wi, acc, accV, rfl, rmi, fg, hDl, racc, hacc, hcomp⟩
  by_cases hlt : i < items.length
  · obtain ⟨go, yl⟩ := sv.1 wi i rmi (fg.fw hD) hlt
    refine .inr ⟨go, fun H' => ∃ m'', m'' < items.length - i ∧ (m'' = items.length - (i + 1) ∧ i + 1 ≤ items.length ∧ ∃ (wi : Wd) (acc : List LR.D) (accV : List V), wi.H = H' ∧ RM X.K Z.cn wi ∧ Fg D w0 wi ∧ H' D = some (.lst accV) ∧ Rvs X.K wi accV acc ∧ acc.length ≤ i + 1 ∧ compL (compF Z.G Z.cl a tp vs c s) (items.drop (i + 1)) acc wi.m = R0), fun H' h => h, fun x H' y => ?_⟩
    obtain ⟨w1, d, hw1, hm1, rm1, fr1, hd, rx⟩ := yl x H' y
    subst hw1
    rw [List.drop_eq_getElem_cons hlt] at hcomp
    have hd' : items[i] = d := by
      rw [List.getElem?_eq_getElem hlt] at hd
      exact Option.some.inj hd
    rw [hd', ← hm1, compL] at hcomp
    have fg1 := fg.step hD fr1
    have rs1 : RS X.K w1 σ s := (rs0.mono (fg.fw hD)).mono fr1.wk
    have hDX : ∀ {w2 : Wd}, Fg D w0 w2 → D ∈ w2.X := fun g => by rw [g.ex]; exact List.mem_cons_self
    have noerr : R0 ≠ .err := fun e => by rw [e] at p0; exact p0
    cases hs : asgN tp vs d (wipeS s vs) with
    | none =>
      exfalso
      apply noerr
      rw [← hcomp]
      simp only [compF, hs]
    | some s1 =>
      simp only [compF, hs] at hcomp
      refine gT_run hs (rs1.wipe vs) rx fun σ2 rs2 hwp => ⟨hwp.trans wipe_wipe |>.trans rfl, ?_⟩
      -- the test
      have after : ∀ (b : Bool) (w2 : Wd), RM X.K Z.cn w2 → Fr w1 w2 →
          (match (R.bind (R.ok b w2.m) fun b m => if b = true then (ev Z.G Z.cl a s1 m).bind fun y m => R.ok (some y) m else R.ok none m) with
            | .ok (some y) m => compL (compF Z.G Z.cl a tp vs c s) (items.drop (i + 1)) (acc ++ [y]) m
            | .ok none m => compL (compF Z.G Z.cl a tp vs c s) (items.drop (i + 1)) acc m
            | _ => R.err) = R0 →
          (if b = true then eE X Z W0 a σ2 w2.H fun y H4 => ∃ acc', H4 D = some (.lst acc') ∧ acc'.length < sizeLine ∧ ∃ m'', m'' < items.length - i ∧ (m'' = items.length - (i + 1) ∧ i + 1 ≤ items.length ∧ ∃ (wi : Wd) (acc : List LR.D) (accV : List V), wi.H = upd H4 D (.lst (acc' ++ [y])) ∧ RM X.K Z.cn wi ∧ Fg D w0 wi ∧ upd H4 D (.lst (acc' ++ [y])) D = some (.lst accV) ∧ Rvs X.K wi accV acc ∧ acc.length ≤ i + 1 ∧ compL (compF Z.G Z.cl a tp vs c s) (items.drop (i + 1)) acc wi.m = R0)
            else ∃ m'', m'' < items.length - i ∧ (m'' = items.length - (i + 1) ∧ i + 1 ≤ items.length ∧ ∃ (wi : Wd) (acc : List LR.D) (accV : List V), wi.H = w2.H ∧ RM X.K Z.cn wi ∧ Fg D w0 wi ∧ w2.H D = some (.lst accV) ∧ Rvs X.K wi accV acc ∧ acc.length ≤ i + 1 ∧ compL (compF Z.G Z.cl a tp vs c s) (items.drop (i + 1)) acc wi.m = R0)) := by
        intro b w2 rm2 fr2 hc2
        have fg2 := fg1.step hD fr2
        have kp : w2.H D = some (.lst accV) := by
          rw [fr2.keep D (hDX fg1), fr1.keep D (hDX fg)]
          exact hDl
        cases b with
        | false =>
          rw [if_neg Bool.false_ne_true]
          exact ⟨_, by omega, rfl, hlt, w2, acc, accV, rfl, rm2, fg2, kp, (racc.mono fr1.wk).mono fr2.wk, by omega, hc2⟩
        | true =>
          rw [if_pos rfl]
          refine ⟨w2, s1, rfl, rm2, rs2.mono fr2.wk, ?_⟩
          cases hy : ev Z.G Z.cl a s1 w2.m with
          | err =>
            exfalso
            apply noerr
            rw [← hc2]
            simp only [R.bind, if_true, hy]
          | exc x m =>
            exfalso
            apply noerr
            rw [← hc2]
            simp only [R.bind, if_true, hy]
          | ok y m =>
            simp only [R.bind, if_true, hy] at hc2
            intro w3 v hm3 rm3 fr3 rv
            have fg3 := fg2.step hD fr3
            have kp3 : w3.H D = some (.lst accV) := by
              rw [fr3.keep D (hDX fg2)]
              exact kp
            have hin := hDX fg3
            refine ⟨accV, kp3, ?_, _, by omega, rfl, hlt, w3.regrow D (accV ++ [v]), acc ++ [y], accV ++ [v], rfl, rm3.regrow hin, fg3.regrow rm0 hD, upd_same, ?_, ?_, ?_⟩
            · rw [racc.length]
              exact lt_line (by omega)
            · have r3 := ((racc.mono fr1.wk).mono fr2.wk).mono fr3.wk
              exact (r3.append (.cons rv .nil)).mono (Fw.regrow hin)
            · simp
              exact hacc
            · show compL _ _ _ w3.m = R0
              rw [hm3]
              exact hc2
      unfold ttOf
      by_cases hn : c.isNop = true
      · rw [if_pos hn]
        simp only [hn, if_true] at hcomp
        exact after true w1 rm1 (Fr.refl w1) hcomp
      · rw [if_neg hn]
        simp only [hn, if_false] at hcomp
        refine ⟨w1, s1, rfl, rm1, rs2, ?_⟩
        cases hb : tst (ev Z.G Z.cl c s1 w1.m) with
        | err =>
          exfalso
          apply noerr
          rw [← hcomp]
          simp [hb, R.bind]
        | exc x m =>
          exfalso
          apply noerr
          rw [← hcomp]
          simp [hb, R.bind]
        | ok b m =>
          intro w2 b' hm2 rm2 fr2 hbb
          have hbb : b' = b := hbb
          subst hbb
          refine after b' w2 rm2 fr2 ?_
          rw [← hcomp, hm2]
          simp only [hb, Bool.false_eq_true, if_false]
          try rfl
  · have e : i = items.length := by omega
    subst e
    refine .inl ⟨sv.2 wi rmi (fg.fw hD), ?_⟩
    rw [List.drop_length, compL] at hcomp
    subst hcomp
    have p1 : Grown X.K Z.cn w0 Q acc wi.m := p0
    exact p1 wi D accV rfl rmi fg.fr fg.ex (Free.of hD) (rm0.notX hD) hDl racc
theorem sn_comp {elt tg iter : Expr} {ifs : List Expr} {scope : Scope} {own : List (Str × Nat)} {vs : List Nat} {tp : Bool} {it : It} (hvs : own.map (·.2) = vs) (hc : X.calm = true) (hN : X.N.Nodup) (hi : PI X tg iter (eI X Z W it)) (ok : BlkOk X.N X.env.scope scope own)
    (hg : ∀ (s : Shared) (H : Hp) (C : Addr) (cl : List (Str × Addr)) (fp : List Addr), PG (X.blk s H scope (compEnvC scope cl C X.env) fp) tg (gT X.K tp vs)) (ht : ∀ (s : Shared) (H : Hp) (C : Addr) (cl : List (Str × Addr)) (fp : List Addr), PTs (X.blk s H scope (compEnvC scope cl C X.env) fp) ifs (ttOf X Z c))
    (he : ∀ (s : Shared) (H : Hp) (C : Addr) (cl : List (Str × Addr)) (fp : List Addr), PE (X.blk s H scope (compEnvC scope cl C X.env) fp) elt (eE X Z W0 a)) (hs : ∀ x, foldedSetIterable iter X.env x = pure x) :
    PE X (.ListComp elt [⟨tg, iter, ifs, 0⟩] scope pos) (eN X Z W (.comp a tp vs it c)) := by
  have h := pe_lc (pos := pos) hc hN hi ok hg ht he hs
  rw [hvs] at h
  exact pe_imp h fun σ H Q => lc_sound
/-- list(range(..)) -/
theorem sn_rng1 {p p2 q : Pos} (hc : X.calm = true) (hg : Gl X "list") (hm : X.mg "list" = none) (hg2 : Gl X "range") (hm2 : X.mg "range" = none) (ha : PE X e (eE X Z W a)) (n1 : starEach [e] X.env = (false, eval e X.env) :: starEach [] X.env)
    (n2 : starEach [.Call (.Name "range" p2) [e] [] q] X.env = (false, eval (.Call (.Name "range" p2) [e] [] q) X.env) :: starEach [] X.env) : PE X (.Call (.Name "list" p) [.Call (.Name "range" p2) [e] [] q] [] pos) (eN X Z W (.rng (.cons a .nil))) :=
  pe_imp (pe_listRg hc hg hm (prg_1 hg2 hm2 ha n1) n2) fun σ H Q ⟨w, s, hw, rm, rs, p⟩ => by
    subst hw
    rw [evN, evs1] at p
    refine ⟨w, s, rfl, rm, rs, p.splitN rm fun d w1 v rm1 fr rv p1 => ?_⟩
    obtain ⟨ds, hd, g⟩ := p1.opt
    unfold semR at hd
    split at hd
    · rename_i j e
      cases e
      cases rv
      split at hd
      · rename_i hb
        cases hd
        unfold bnd at hb
        simp only [Bool.and_eq_true, decide_eq_true_eq] at hb
        refine ⟨j, rfl, ⟨by omega, by omega, by omega, by omega, by omega⟩, fun q hq => g.new' rm1 hq ?_⟩
        refine Rvs.ofGet (by simp [rgV, rngs]) fun i v d h1 h2 => ?_
        unfold rgV at h1
        unfold rngs at h2
        rw [List.getElem?_map] at h1 h2
        obtain ⟨k, e1, rfl⟩ := Option.map_eq_some_iff.mp h1
        obtain ⟨k', e2, rfl⟩ := Option.map_eq_some_iff.mp h2
        have e3 := (List.getElem?_eq_some_iff.mp e1).2
        have e4 := (List.getElem?_eq_some_iff.mp e2).2
        simp at e3 e4
        subst e3 e4
        rw [Int.mul_one]
        exact .int _
      · cases hd
    · rename_i e; cases e
    · rename_i e; cases e
    · cases hd
theorem rgs_vals {K : PySem.W.Frag} {w : Wd} (a b : Int) : Rvs K w (rgV a b) (rngs a (b - a).toNat 1) := by
  refine Rvs.ofGet (by simp [rgV, rngs]) fun i v d h1 h2 => ?_
  unfold rgV at h1
  unfold rngs at h2
  rw [List.getElem?_map] at h1 h2
  obtain ⟨k, e1, rfl⟩ := Option.map_eq_some_iff.mp h1
  obtain ⟨k', e2, rfl⟩ := Option.map_eq_some_iff.mp h2
  have e3 := (List.getElem?_eq_some_iff.mp e1).2
  have e4 := (List.getElem?_eq_some_iff.mp e2).2
  simp at e3 e4
  subst e3 e4
  rw [Int.mul_one]
  exact .int _
theorem semR_one {x : D} {ds : List D} (h : semR [x] = some ds) : ∃ j, x = .int j ∧ bnd j = true ∧ ds = rngs 0 j.toNat 1 := by
  cases x with
  | int j =>
    have h : (if bnd j = true then some (rngs 0 j.toNat 1) else none) = some ds := h
    by_cases hb : bnd j = true
    · rw [if_pos hb] at h
      exact ⟨j, rfl, hb, (Option.some.inj h).symm⟩
    · rw [if_neg hb] at h
      cases h
  | _ => cases h
theorem semR_two {x y : D} {ds : List D} (h : semR [x, y] = some ds) : ∃ i j, x = .int i ∧ y = .int j ∧ bnd i = true ∧ bnd j = true ∧ (j - i).toNat ≤ lim ∧ ds = rngs i (j - i).toNat 1 := by
  cases x with
  | int i =>
    cases y with
    | int j =>
      have h : (if (bnd i && bnd j && decide ((j - i).toNat ≤ lim)) = true then some (rngs i (j - i).toNat 1) else none) = some ds := h
      by_cases hb : (bnd i && bnd j && decide ((j - i).toNat ≤ lim)) = true
      · rw [if_pos hb] at h
        simp only [Bool.and_eq_true, decide_eq_true_eq] at hb
        exact ⟨i, j, rfl, rfl, hb.1.1, hb.1.2, hb.2, (Option.some.inj h).symm⟩
      · rw [if_neg hb] at h
        cases h
    | _ => cases h
  | _ => cases y <;> cases h
/-- tuple(range(..)) -/
theorem se_tr1 {p p2 q : Pos} (hc : X.calm = true) (hg : Gl X "tuple") (hm : X.mg "tuple" = none) (hg2 : Gl X "range") (hm2 : X.mg "range" = none) (ha : PE X e (eE X Z W a)) (n1 : starEach [e] X.env = (false, eval e X.env) :: starEach [] X.env)
    (n2 : starEach [.Call (.Name "range" p2) [e] [] q] X.env = (false, eval (.Call (.Name "range" p2) [e] [] q) X.env) :: starEach [] X.env) : PE X (.Call (.Name "tuple" p) [.Call (.Name "range" p2) [e] [] q] [] pos) (eE X Z W (.tr1 a)) :=
  pe_imp (pe_tupRg hc hg hm (prg_1 hg2 hm2 ha n1) n2) fun σ H Q ⟨w, s, hw, rm, rs, p⟩ => by
    subst hw
    rw [ev] at p
    refine ⟨w, s, rfl, rm, rs, p.split fun d w1 v rm1 fr rv p1 => ?_⟩
    obtain ⟨r, hd, g⟩ := p1.opt
    obtain ⟨ds, hd2, rfl⟩ := Option.map_eq_some_iff.mp hd
    obtain ⟨j, rfl, hb, rfl⟩ := semR_one hd2
    cases rv
    unfold bnd at hb
    simp only [Bool.and_eq_true, decide_eq_true_eq] at hb
    refine ⟨j, rfl, ⟨by omega, by omega, by omega, by omega, by omega⟩, fun q hq => ?_⟩
    have hr := rgs_vals (K := X.K) (w := w1) 0 j
    rw [Int.sub_zero] at hr
    exact g (w1.put q (.tup _)) (.ref q) rfl (rm1.put hq) (Fr.put rm1 hq) (Rv.newTup rm1 hq hr)
theorem se_tr2 {e2 : Expr} {b : E} {p p2 q : Pos} (hc : X.calm = true) (hg : Gl X "tuple") (hm : X.mg "tuple" = none) (hg2 : Gl X "range") (hm2 : X.mg "range" = none) (ha : PE X e (eE X Z W a)) (hb : PE X e2 (eE X Z W b)) (n1 : starEach [e, e2] X.env = (false, eval e X.env) :: starEach [e2] X.env)
    (n3 : starEach [e2] X.env = (false, eval e2 X.env) :: starEach [] X.env) (hpl : (backTo q (starEach [e2] X.env)).any (·.1) = false)
    (n2 : starEach [.Call (.Name "range" p2) [e, e2] [] q] X.env = (false, eval (.Call (.Name "range" p2) [e, e2] [] q) X.env) :: starEach [] X.env) : PE X (.Call (.Name "tuple" p) [.Call (.Name "range" p2) [e, e2] [] q] [] pos) (eE X Z W (.tr2 a b)) :=
  pe_imp (pe_tupRg hc hg hm (prg_2 hg2 hm2 ha hb n1 n3 hpl) n2) fun σ H Q ⟨w, s, hw, rm, rs, p⟩ => by
    subst hw
    rw [ev] at p
    refine ⟨w, s, rfl, rm, rs, p.split fun d w1 v rm1 fr rv p1 => ⟨w1, s, rfl, rm1, rs.mono fr.wk, p1.split fun d2 w2 v2 rm2 fr2 rv2 p2 => ?_⟩⟩
    obtain ⟨r, hd, g⟩ := p2.opt
    obtain ⟨ds, hd2, rfl⟩ := Option.map_eq_some_iff.mp hd
    have rv := rv.mono fr2.wk
    obtain ⟨i, j, rfl, rfl, hb1, hb2, hb3, rfl⟩ := semR_two hd2
    cases rv
    cases rv2
    unfold bnd at hb1 hb2
    simp only [Bool.and_eq_true, decide_eq_true_eq, lim] at hb1 hb2 hb3
    refine ⟨i, j, rfl, rfl, ⟨by omega, by omega, by omega, by omega, by omega⟩, fun q hq => ?_⟩
    exact g (w2.put q (.tup _)) (.ref q) rfl (rm2.put hq) (Fr.put rm2 hq) (Rv.newTup rm2 hq (rgs_vals i j))
end
end LR

set_option Elab.async false
set_option linter.all false
set_option maxRecDepth 100000
set_option maxHeartbeats 4000000
namespace LR
open PySem PySem.Spec PyProof.Rows L2
section
variable {X : Cx} {Z : Ec} {W : WX} {e e1 e2 e3 : Expr} {es : List Expr} {a b c : E} {as : Es} {n : N} {pos pos2 : Pos}
/-! ### -x -/
theorem se_neg (ha : PE X e (eE X Z W a)) : PE X (.UnaryOp .USub e pos) (eE X Z W (.o1 .neg a)) :=
  pe_imp (pe_un un_neg ha) fun σ H Q ⟨w, s, hw, rm, rs, p⟩ => by
    subst hw
    rw [ev] at p
    refine ⟨w, s, rfl, rm, rs, p.split fun d w1 v rm1 fr rv p1 => ?_⟩
    obtain ⟨o, ho, q⟩ := p1.opt
    cases rv with
    | int i =>
      cases ho
      exact ⟨i, rfl, (Rv.int _).same rm1 q⟩
    | _ => cases ho
/-- t[::-1] -/
theorem se_rev {k : Nat} {p1 p2 p3 : Pos} (ha : PE X e (eE X Z W a)) : PE X (.Subscript e (.Slice none none (some (.UnaryOp .USub (.Constant (.int 1) k p1) p2)) p3) pos) (eE X Z W (.o1 .rev a)) :=
  pe_imp (pe_revT ha) fun σ H Q ⟨w, s, hw, rm, rs, p⟩ => by
    subst hw
    rw [ev] at p
    refine ⟨w, s, rfl, rm, rs, p.split fun d w1 v rm1 fr rv p1 => ?_⟩
    obtain ⟨o, ho, q⟩ := p1.opt
    cases rv with
    | @tup a xs ds f r =>
      cases ho
      exact ⟨a, xs, rfl, f.sq, fun p hp => q (w1.put p (.tup xs.reverse)) (.ref p) rfl (rm1.put hp) (Fr.put rm1 hp) (Rv.newTup rm1 hp r.reverse)⟩
    | _ => cases ho
/-! ### isinstance -/
theorem rv_ty {K : PySem.W.Frag} {cn : Cn} {w : Wd} {v : V} {d : D} {t : String} (rm : RM K cn w) (r : Rv K w v d) (h : tyD w.m d = some t) : TyX K w.H v (.type t) := by
  cases r with
  | non => cases h; exact .base .non
  | bl b => cases h; exact .base (.bl b)
  | int b => cases h; exact .base (.int b)
  | str b => cases h; exact .base (.str b)
  | tup f r =>
    cases h
    rcases f with ⟨f | ⟨o, f⟩, _⟩ | ⟨o, its, n, h1, h2, h3, h4⟩
    · exact .base (.tup f)
    · exact .fTuple f
    · exact .kTuple h1 h2
  | lst f r => cases h; exact .base (.lst f.1)
  | scr f r => cases h
  | @ref a n hM =>
    simp only [tyD] at h
    split at h
    · rename_i l hc
      cases h
      obtain ⟨ys, h1, h2⟩ := rm.lst hM hc
      exact .base (.lst h1)
    · cases h
theorem se_isi {T : String} {x : Str} {p p2 : Pos} (ha : PE X e (eE X Z W a)) (hg : Gl X "isinstance") (hm : X.mg "isinstance" = none) (hg2 : Gl X x) (hm2 : X.mg x = none) (hv : bootBuiltins x = some (.type T)) (hn : x ≠ "__name__") (hd : (x == ("__debug__" : Str)) = false)
    (he : starEach [e, .Name x p2] X.env = (false, eval e X.env) :: starEach [.Name x p2] X.env) (hpl : (backTo pos (starEach [.Name x p2] X.env)).any (·.1) = false) : PE X (.Call (.Name "isinstance" p) [e, .Name x p2] [] pos) (eE X Z W (.isi T a)) :=
  pe_imp (pe_callB call_isi hg hm boot_isinstance (pa_cons ha (pa_cons (pe_bltn hg2 hm2 hv (v := .ty T) rfl hn hd) pa_nil rfl) he) (by decide) (by decide) he hpl) fun σ H Q ⟨w, s, hw, rm, rs, p⟩ => by
    subst hw
    rw [ev] at p
    refine ⟨w, s, rfl, rm, rs, p.split fun d w1 v rm1 fr rv p1 => ?_⟩
    obtain ⟨o, ho, q⟩ := p1.opt
    unfold semIsi at ho
    obtain ⟨t, ht, ho⟩ := Option.bind_eq_some_iff.mp ho
    obtain ⟨k, hk, rfl⟩ := Option.map_eq_some_iff.mp ho
    exact ⟨v, .ty T, .type t, .type T, k, rfl, .ty T, rv_ty rm1 rv ht, kit_ty hk, (Rv.bl _).same rm1 q⟩
/-! ### len(set(t)) -/
theorem se_lset {p p2 q : Pos} (ha : PE X e (eE X Z W a)) (hg : Gl X "len") (hm : X.mg "len" = none) (hg2 : Gl X "set") (hm2 : X.mg "set" = none) (hc : X.calm = true)
    (na : starEach [e] X.env = (false, eval e X.env) :: starEach [] X.env) : PE X (.Call (.Name "len" p) [.Call (.Name "set" p2) [e] [] q] [] pos) (eE X Z W (.lset a)) :=
  pe_imp (pe_lset hg hm hg2 hm2 ha hc na) fun σ H Q ⟨w, s, hw, rm, rs, p⟩ => by
    subst hw
    rw [ev] at p
    refine ⟨w, s, rfl, rm, rs, p.split fun d w1 v rm1 fr rv p1 => ?_⟩
    obtain ⟨o, ho, q⟩ := p1.opt
    unfold semLset at ho
    obtain ⟨l, hl0, ho⟩ := Option.bind_eq_some_iff.mp ho
    obtain ⟨ns, hn, ho⟩ := Option.bind_eq_some_iff.mp ho
    obtain ⟨p', xs, rfl, sq, r⟩ := Rv.seq rm1 rv hl0
    split at ho
    · rename_i hl
      cases ho
      have e := ints_map hn
      subst e
      have e := r.ints
      subst e
      exact ⟨_, ns, rfl, sq, hl, (Rv.int _).same rm1 q⟩
    · cases ho
/-! ### o.count(e) -/
theorem se_cnt {o : Expr} {b : E} {apos cpos : Pos} (ho : PE X o (eE X Z W a)) (ha : PE X e (eE X Z W b)) (hbase : attributeBase o "count" X.env (eval o X.env) = eval o X.env)
    (hfew : ((backTo cpos (starEach [e] X.env)).all (fun x => !x.1) && (backToKw cpos (keywordEach [] X.env)).all (fun x => x.1.isSome)
      && decide ([e].length + ([] : List Keyword).length + (if ([] : List Keyword).isEmpty then 0 else 1) < 30)) = true)
    (hline : (apos.endLine == cpos.line) = true) (hs : starEach [e] X.env = (false, eval e X.env) :: starEach [] X.env) : PE X (.Call (.Attribute o "count" apos) [e] [] cpos) (eE X Z W (.cnt a b)) :=
  pe_imp (pe_bm PySem.F.plainAttrs_list PySem.F.slot_list_count PySem.F.type_list_count mt_lcount ho (pa_cons ha pa_nil hs) hbase hfew hline hs rfl) fun σ H Q ⟨w, s, hw, rm, rs, p⟩ => by
    subst hw
    rw [ev] at p
    refine ⟨w, s, rfl, rm, rs, p.split fun d w1 v rm1 fr rv p1 => ?_⟩
    by_cases hL : isFl d = true
    · rw [if_pos hL] at p1
      cases rv with
      | lst f rvs =>
        refine ⟨.inl ⟨rfl, _, f.sq⟩, w1, s, rfl, rm1, rs.mono fr.wk, p1.split fun y w2 u rm2 fr2 ru p2 => ?_⟩
        obtain ⟨r, hr, q⟩ := p2.opt
        unfold cntD at hr
        split at hr
        · rename_i l k e1
          cases e1
          obtain ⟨ns, hn, rfl⟩ := Option.map_eq_some_iff.mp hr
          have e := ints_map hn
          subst e
          have e := rvs.ints
          subst e
          cases ru
          exact ⟨_, ns, k, rfl, rfl, (f.mono fr2.wk).sq, (Rv.int _).same rm2 q⟩
        · cases hr
      | _ => cases hL
    · rw [if_neg hL] at p1; exact p1.elim
/-! ### o.append(e) -/
theorem se_app {o : Expr} {b : E} {apos cpos : Pos} (ho : PE X o (eE X Z W a)) (ha : PE X e (eE X Z W b)) (hbase : attributeBase o "append" X.env (eval o X.env) = eval o X.env)
    (hfew : ((backTo cpos (starEach [e] X.env)).all (fun x => !x.1) && (backToKw cpos (keywordEach [] X.env)).all (fun x => x.1.isSome)
      && decide ([e].length + ([] : List Keyword).length + (if ([] : List Keyword).isEmpty then 0 else 1) < 30)) = true)
    (hline : (apos.endLine == cpos.line) = true) (hs : starEach [e] X.env = (false, eval e X.env) :: starEach [] X.env) : PE X (.Call (.Attribute o "append" apos) [e] [] cpos) (eE X Z W (.app a b)) :=
  pe_imp (pe_bm PySem.F.plainAttrs_list PySem.F.slot_list_append PySem.F.type_list_append mt_append ho (pa_cons ha pa_nil hs) hbase hfew hline hs rfl) fun σ H Q ⟨w, s, hw, rm, rs, p⟩ => by
    subst hw
    rw [ev] at p
    refine ⟨w, s, rfl, rm, rs, p.split fun d w1 v rm1 fr rv p1 => ?_⟩
    by_cases hL : isL w1.m d = true
    · rw [if_pos hL] at p1
      unfold isL at hL
      split at hL
      · rename_i n
        split at hL
        · rename_i l hc
          cases rv with
          | @ref a _ hM =>
            obtain ⟨ys, h1, h2⟩ := rm1.lst hM hc
            refine ⟨.inl ⟨rfl, ys, .inl (.inl h1)⟩, w1, s, rfl, rm1, rs.mono fr.wk, p1.split fun y w2 u rm2 fr2 ru p2 => ?_⟩
            unfold appD at p2
            simp only at p2
            split at p2
            · rename_i l2 hc2
              by_cases hlt : l2.length < lim
              · rw [if_pos hlt] at p2
                have hM2 : w2.M[n]? = some a := fr2.wk.at hM
                obtain ⟨zs, k1, k2⟩ := rm2.lst hM2 hc2
                refine ⟨a, zs, u, rfl, rfl, k1, lt_line (by rw [k2.length]; exact hlt), ?_⟩
                have fr3 : Fr w2 (w2.wr n a (.lst (zs ++ [u])) (.lst (l2 ++ [y]))) := Fr.wr rm2 hM2 hc2 rfl
                exact p2 (w2.wr n a (.lst (zs ++ [u])) (.lst (l2 ++ [y]))) .non rfl (rm2.wr hM2 hc2 rfl ⟨_, upd_same, (k2.append (.cons ru .nil)).mono fr3.wk⟩) fr3 .non
              · rw [if_neg hlt] at p2; exact p2.elim
            · exact p2.elim
        · cases hL
      · cases hL
    · rw [if_neg hL] at p1; exact p1.elim
end
end LR

set_option Elab.async false
set_option linter.all false
set_option maxRecDepth 100000
set_option maxHeartbeats 4000000
namespace LR
open PySem PySem.Spec PyProof.Rows L2
section
variable (K : PySem.W.Frag) (cn : Cn) (mg : Str → Option Value)
def PostS (D : Ends) (W : WX) (w : Wd) : R Fl → Prop
  | .ok (.nx s) m => ∀ (w' : Wd) (σ : L2.St), w'.m = m → RM K cn w' → Fr w w' → RS K w' σ s → D.nx σ w'.H
  | .ok (.bk s) m => ∀ (w' : Wd) (σ : L2.St), w'.m = m → RM K cn w' → Fr w w' → RS K w' σ s → D.bk σ w'.H
  | .ok (.rt d) m => ∀ (w' : Wd) (v : V), w'.m = m → RM K cn w' → Fr w w' → Rv K w' v d → D.rt v w'.H
  | .exc x m => ∀ (w' : Wd) (σ : L2.St) (cls : Value) (d : Option Addr), w'.m = m → RM K cn w' → Fr w w' → mg x.cls = some cls → XD K w' x.fs d → W cls d σ w'.H
  | .err => False
def PostG (Q : L2.St → Hp → Prop) (W : WX) (w : Wd) : R Sl → Prop
  | .ok s m => ∀ (w' : Wd) (σ : L2.St), w'.m = m → RM K cn w' → Fr w w' → RS K w' σ s → Q σ w'.H
  | .exc x m => ∀ (w' : Wd) (σ : L2.St) (cls : Value) (d : Option Addr), w'.m = m → RM K cn w' → Fr w w' → mg x.cls = some cls → XD K w' x.fs d → W cls d σ w'.H
  | .err => False
end
section
variable {K : PySem.W.Frag} {cn : Cn} {mg : Str → Option Value} {α' β' : Type} {rel' : Wd → β' → α' → Prop} {D : Ends} {Q' : β' → Hp → Prop} {QG : L2.St → Hp → Prop} {W : WX} {w w1 : Wd} {σ : L2.St}
theorem PostS.later {r : R Fl} (f : Fr w w1) (h : PostS K cn mg D W w r) : PostS K cn mg D W w1 r := by
  cases r with
  | ok a m =>
    cases a with
    | nx s => exact fun w' b hm rm fr hr => h w' b hm rm (f.trans fr) hr
    | bk s => exact fun w' b hm rm fr hr => h w' b hm rm (f.trans fr) hr
    | rt s => exact fun w' b hm rm fr hr => h w' b hm rm (f.trans fr) hr
  | exc x m => exact fun w' b cls d hm rm fr hc hf => h w' b cls d hm rm (f.trans fr) hc hf
  | err => exact h
theorem PostG.later {r : R Sl} (f : Fr w w1) (h : PostG K cn mg QG W w r) : PostG K cn mg QG W w1 r := by
  cases r with
  | ok a m => exact fun w' b hm rm fr hr => h w' b hm rm (f.trans fr) hr
  | exc x m => exact fun w' b cls d hm rm fr hc hf => h w' b cls d hm rm (f.trans fr) hc hf
  | err => exact h
theorem PostS.split {r : R α'} {f : α' → Mem → R Fl} (h : PostS K cn mg D W w (r.bind f))
    (k : ∀ (a : α') (w1 : Wd) (b : β'), RM K cn w1 → Fr w w1 → rel' w1 b a → PostS K cn mg D W w1 (f a w1.m) → Q' b w1.H) : Post K cn mg rel' Q' (WE W σ) w r := by
  cases r with
  | ok a m =>
    intro w1 b hm rm fr hr
    have h2 : PostS K cn mg D W w (f a m) := h
    rw [← hm] at h2
    exact k a w1 b rm fr hr (h2.later fr)
  | exc x m => exact fun w' cls d hm rm fr hc hf => h w' σ cls d hm rm fr hc hf
  | err => exact h
theorem PostG.split {r : R α'} {f : α' → Mem → R Sl} (h : PostG K cn mg QG W w (r.bind f))
    (k : ∀ (a : α') (w1 : Wd) (b : β'), RM K cn w1 → Fr w w1 → rel' w1 b a → PostG K cn mg QG W w1 (f a w1.m) → Q' b w1.H) : Post K cn mg rel' Q' (WE W σ) w r := by
  cases r with
  | ok a m =>
    intro w1 b hm rm fr hr
    have h2 : PostG K cn mg QG W w (f a m) := h
    rw [← hm] at h2
    exact k a w1 b rm fr hr (h2.later fr)
  | exc x m => exact fun w' cls d hm rm fr hc hf => h w' σ cls d hm rm fr hc hf
  | err => exact h
theorem PostS.splitG {r : R Sl} {f : Sl → Mem → R Fl} (h : PostS K cn mg D W w (r.bind f))
    (k : ∀ (s : Sl) (w1 : Wd) (σ : L2.St), RM K cn w1 → Fr w w1 → RS K w1 σ s → PostS K cn mg D W w1 (f s w1.m) → QG σ w1.H) : PostG K cn mg QG W w r := by
  cases r with
  | ok a m =>
    intro w1 b hm rm fr hr
    have h2 : PostS K cn mg D W w (f a m) := h
    rw [← hm] at h2
    exact k a w1 b rm fr hr (h2.later fr)
  | exc x m => exact h
  | err => exact h
theorem PostG.splitG {Q2 : L2.St → Hp → Prop} {r : R Sl} {f : Sl → Mem → R Sl} (h : PostG K cn mg Q2 W w (r.bind f))
    (k : ∀ (s : Sl) (w1 : Wd) (σ : L2.St), RM K cn w1 → Fr w w1 → RS K w1 σ s → PostG K cn mg Q2 W w1 (f s w1.m) → QG σ w1.H) : PostG K cn mg QG W w r := by
  cases r with
  | ok a m =>
    intro w1 b hm rm fr hr
    have h2 : PostG K cn mg Q2 W w (f a m) := h
    rw [← hm] at h2
    exact k a w1 b rm fr hr (h2.later fr)
  | exc x m => exact h
  | err => exact h
end
def tS (K : PySem.W.Frag) (cn : Cn) (mg : Str → Option Value) (G : Str → Option D) (cl : Str → List D → Mem → R D) (W : WX) (st : S) : TS := fun D σ H => ∃ (w : Wd) (s : Sl), w.H = H ∧ RM K cn w ∧ RS K w σ s ∧ PostS K cn mg D W w (evS G cl st s w.m)
def tG (K : PySem.W.Frag) (cn : Cn) (mg : Str → Option Value) (G : Str → Option D) (cl : Str → List D → Mem → R D) (W : WX) (t : Tg) : TG := fun x σ H Q => ∃ (w : Wd) (s : Sl) (d : D), w.H = H ∧ RM K cn w ∧ RS K w σ s ∧ Rv K w x d ∧ PostG K cn mg Q W w (asg1 G cl t d s w.m)
def tGs (K : PySem.W.Frag) (cn : Cn) (mg : Str → Option Value) (G : Str → Option D) (cl : Str → List D → Mem → R D) (W : WX) (ts : List Tg) : TGs := fun xs σ H Q => ∃ (w : Wd) (s : Sl) (ds : List D), w.H = H ∧ RM K cn w ∧ RS K w σ s ∧ Rvs K w xs ds ∧ PostG K cn mg Q W w (asgs G cl ts ds s w.m)
abbrev eS (X : Cx) (Z : Ec) (W : WX) (a : S) : TS := tS X.K Z.cn X.mg Z.G Z.cl W a
abbrev eG (X : Cx) (Z : Ec) (W : WX) (a : Tg) : TG := tG X.K Z.cn X.mg Z.G Z.cl W a
abbrev eGs (X : Cx) (Z : Ec) (W : WX) (a : List Tg) : TGs := tGs X.K Z.cn X.mg Z.G Z.cl W a
theorem pg_imp {X : Cx} {e : Expr} {t t' : TG} (h : PG X e t) (i : ∀ v σ H Q, t' v σ H Q → t v σ H Q) : PG X e t' := ⟨fun pins s σ H v u Q I r q => h.run pins s σ H v u Q I r (i v σ H Q q)⟩
theorem pgs_imp {X : Cx} {e : List Expr} {t t' : TGs} (h : PGs X e t) (i : ∀ v σ H Q, t' v σ H Q → t v σ H Q) : PGs X e t' := ⟨fun pins s σ H v u Q I r q => h.run pins s σ H v u Q I r (i v σ H Q q)⟩
section
variable {X : Cx} {Z : Ec} {W : WX} {e e1 e2 e3 o : Expr} {es : List Expr} {a b c : E} {as : Es} {n : N} {pos pos2 : Pos} {st : Stmt} {rest sts sts2 : List Stmt} {sa sb : S}
/-! ### targets -/
theorem sg_nm {i : Nat} (h : PG X e (gName i)) : PG X e (eG X Z W (.nm i)) := pg_imp h fun v σ H Q ⟨w, s, d, hw, rm, rs, rv, p⟩ => by
  subst hw
  simp only [asg1] at p
  split at p
  · exact p w _ rfl rm (Fr.refl w) (rs.set' i rv)
  · exact p.elim
theorem sg_ix (ho : PE X o (eE X Z W a)) (hi : PE X e (eE X Z W b))
    (ha : ∀ v, assign (.Subscript o e pos) X.env v = (do
      let ov ← holding [v] (eval o X.env)
      let iv ← holding [v, ov] (eval e X.env)
      standAt pos
      holding [v, ov, iv] (setItem ov iv v)
      release [v, ov, iv] [])) : PG X (.Subscript o e pos) (eG X Z W (.ix a b)) := pg_imp (pg_sub ho hi set_list ha) fun v σ H Q ⟨w, s, d, hw, rm, rs, rv, p⟩ => by
  subst hw
  simp only [asg1] at p
  refine ⟨w, s, rfl, rm, rs, p.split fun x w1 ov rm1 fr1 rx p1 => ?_⟩
  refine ⟨w1, s, rfl, rm1, rs.mono fr1.wk, p1.split fun y w2 iv rm2 fr2 ry p2 => ?_⟩
  have rx2 := rx.mono fr2.wk
  have rs2 := (rs.mono fr1.wk).mono fr2.wk
  have rv2 := (rv.mono fr1.wk).mono fr2.wk
  unfold setD at p2
  split at p2
  · rename_i n k
    split at p2
    · rename_i l hc
      split at p2
      · rename_i j hj
        cases rx2 with
        | @ref q _ hM =>
          cases ry
          obtain ⟨ys, h1, h2⟩ := rm2.lst hM hc
          have fr3 : Fr w2 (w2.wr n q (.lst (ys.set j v)) (.lst (l.set j d))) := Fr.wr rm2 hM hc rfl
          refine ⟨q, ys, k, j, rfl, rfl, h1, by rw [h2.length]; exact hj, ?_⟩
          exact p2 (w2.wr n q (.lst (ys.set j v)) (.lst (l.set j d))) σ rfl (rm2.wr hM hc rfl ⟨_, upd_same, (h2.set rv2 j).mono fr3.wk⟩) fr3 (rs2.mono fr3.wk)
      · exact p2.elim
    · exact p2.elim
  · exact p2.elim
theorem sgs_nil : PGs X [] (eGs X Z W []) := pgs_imp pgs_nil fun v σ H Q ⟨w, s, ds, hw, rm, rs, rv, p⟩ => by
  subst hw
  cases rv with
  | nil =>
    simp only [asgs] at p
    exact ⟨rfl, p w σ rfl rm (Fr.refl w) rs⟩
  | cons r t => simp only [asgs] at p; exact p.elim
theorem sgs_cons {t : Tg} {ts : List Tg} (h1 : PG X e (eG X Z W t)) (h2 : PGs X es (eGs X Z W ts)) (hs : (assignEach (e :: es) X.env).map (·.2) = assign e X.env :: (assignEach es X.env).map (·.2)) : PGs X (e :: es) (eGs X Z W (t :: ts)) :=
  pgs_imp (pgs_cons h1 h2 hs) fun v σ H Q ⟨w, s, ds, hw, rm, rs, rv, p⟩ => by
    subst hw
    cases rv with
    | nil => simp only [asgs] at p; exact p.elim
    | cons r rr =>
      simp only [asgs] at p
      refine ⟨_, _, rfl, w, s, _, rfl, rm, rs, r, p.splitG fun s1 w1 σ1 rm1 fr1 rs1 p1 => ?_⟩
      exact ⟨w1, s1, _, rfl, rm1, rs1, rr.mono fr1.wk, p1⟩
/-! ### statements -/
theorem ss_asg {t : Tg} {tg : Expr} (he : PE X e (eE X Z W a)) (hg : PG X tg (eG X Z W t)) (hs : swapsWithSole [tg] e pos.line X.env = pure false) (hw : swappedStores [tg] e X.env = pure none) (h1 : (assignEach [tg] X.env).map (·.2) = [assign tg X.env]) :
    PS X (.Assign [tg] e pos) (eS X Z W (.asg t a)) := ps_imp (ps_asg he hg hs hw h1) fun D σ H ⟨w, s, hw, rm, rs, p⟩ => by
  subst hw
  simp only [evS] at p
  refine ⟨w, s, rfl, rm, rs, p.split fun d w1 v rm1 fr rv p1 => ?_⟩
  refine ⟨w1, s, d, rfl, rm1, rs.mono fr.wk, rv, p1.splitG fun s2 w2 σ2 rm2 fr2 rs2 p2 => ?_⟩
  exact p2 w2 σ2 rfl rm2 (Fr.refl w2) rs2
theorem ss_tpl {ts : List Tg} {k : Nat} (hc : X.calm = true) (he : PE X e (eE X Z W a)) (hg : PGs X es (eGs X Z W ts)) (hn : (assignEach es X.env).length = es.length) (hf : (assignEach es X.env).findIdx? (·.1) = none) (hl : ts.length = es.length)
    (hs : swapsWithSole [.Tuple es k pos2] e pos.line X.env = pure false) (hw : swappedStores [.Tuple es k pos2] e X.env = pure none) :
    PS X (.Assign [.Tuple es k pos2] e pos) (eS X Z W (.tpl ts a)) := ps_imp (ps_asg he (pg_tup hc hg hn hf) hs hw rfl) fun D σ H ⟨w, s, hw, rm, rs, p⟩ => by
  subst hw
  simp only [evS] at p
  refine ⟨w, s, rfl, rm, rs, p.split fun d w1 v rm1 fr rv p1 => ?_⟩
  cases rv with
  | @tup q xs ds f r =>
    by_cases hlen : ds.length = ts.length
    · have p1 : PostS X.K Z.cn X.mg D W w1 (if ds.length = ts.length then (asgs Z.G Z.cl ts ds s w1.m).bind fun s m => .ok (.nx s) m else .err) := p1
      rw [if_pos hlen] at p1
      exact ⟨q, xs, rfl, f.sq, by rw [r.length, hlen, hl], w1, s, ds, rfl, rm1, rs.mono fr.wk, r, p1.splitG fun s2 w2 σ2 rm2 fr2 rs2 p2 => p2 w2 σ2 rfl rm2 (Fr.refl w2) rs2⟩
    · have p1 : PostS X.K Z.cn X.mg D W w1 (if ds.length = ts.length then (asgs Z.G Z.cl ts ds s w1.m).bind fun s m => .ok (.nx s) m else .err) := p1
      rw [if_neg hlen] at p1
      exact p1.elim
  | non => exact p1.elim
  | bl _ => exact p1.elim
  | int _ => exact p1.elim
  | str _ => exact p1.elim
  | lst _ _ => exact p1.elim
  | scr _ _ => exact p1.elim
  | ref _ => exact p1.elim
theorem par_core {is : List Nat} {D : Ends} {σ : L2.St} {H : Hp} (h : eS X Z W (.par is as) D σ H) : eA X Z W as σ H fun vs H1 => ∃ (w1 : Wd) (s : Sl) (ds : List LR.D) (s' : Sl), w1.H = H1 ∧ RM X.K Z.cn w1 ∧ RS X.K w1 σ s ∧ Rvs X.K w1 vs ds ∧ setAll is ds s = some s' ∧ PostS X.K Z.cn X.mg D W w1 (.ok (.nx s') w1.m) := by
  obtain ⟨w, s, hw, rm, rs, p⟩ := h
  subst hw
  simp only [evS] at p
  refine ⟨w, s, rfl, rm, rs, p.split fun ds w1 vs rm1 fr rvs p1 => ?_⟩
  cases hs : setAll is ds s with
  | none => rw [hs] at p1; exact p1.elim
  | some s' => rw [hs] at p1; exact ⟨w1, s, ds, s', rfl, rm1, rs.mono fr.wk, rvs, hs, p1⟩
theorem ss_par {i j : Nat} {x y : Str} {px py pt : Pos} {kt k2 pt2} (hc : X.calm = true) (hN : X.N.Nodup) (hi : X.N[i]? = some x) (hj : X.N[j]? = some y) (hij : i ≠ j)
    (hx : X.env.scope.names.lookup x = some .local) (hy : X.env.scope.names.lookup y = some .local) (ha : PA X [e1, e2] (eA X Z W as))
    (hw : swappedStores [.Tuple [.Name x px, .Name y py] kt pt] (.Tuple [e1, e2] k2 pt2) X.env = pure (some [x, y])) :
    PS X (.Assign [.Tuple [.Name x px, .Name y py] kt pt] (.Tuple [e1, e2] k2 pt2) pos) (eS X Z W (.par [i, j] as)) :=
  ps_imp (ps_par hc hN hi hj hij hx hy ha hw rfl) fun D σ H h => by
    obtain ⟨w, s, hw, rm, rs, p⟩ := par_core h
    refine ⟨w, s, hw, rm, rs, ?_⟩
    refine p.imp fun vs H1 ⟨w1, s1, ds, s', e1, rm1, rs1, rvs, hs, p1⟩ => ?_
    subst e1
    match ds, hs, rvs with
    | [d, d'], hs, rvs =>
      obtain ⟨v, v', rfl, rv, rv'⟩ := rvs.two
      simp only [setAll] at hs
      cases hs
      exact ⟨v, v', rfl, p1 w1 _ rfl rm1 (Fr.refl w1) ((rs1.set' i rv).set' j rv')⟩
    | [], hs, _ => simp [setAll] at hs
    | [_], hs, _ => simp [setAll] at hs
    | _ :: _ :: _ :: _, hs, _ => simp [setAll] at hs
theorem ss_par3 {i j l : Nat} {x y z : Str} {px py pz pt : Pos} {kt k2 pt2} (hc : X.calm = true) (hN : X.N.Nodup) (hi : X.N[i]? = some x) (hj : X.N[j]? = some y) (hl : X.N[l]? = some z) (hij : i ≠ j) (hil : i ≠ l) (hjl : j ≠ l)
    (hx : X.env.scope.names.lookup x = some .local) (hy : X.env.scope.names.lookup y = some .local) (hz : X.env.scope.names.lookup z = some .local) (ha : PA X [e1, e2, e3] (eA X Z W as))
    (hw : swappedStores [.Tuple [.Name x px, .Name y py, .Name z pz] kt pt] (.Tuple [e1, e2, e3] k2 pt2) X.env = pure (some [x, y, z])) :
    PS X (.Assign [.Tuple [.Name x px, .Name y py, .Name z pz] kt pt] (.Tuple [e1, e2, e3] k2 pt2) pos) (eS X Z W (.par [i, j, l] as)) :=
  ps_imp (ps_par3 hc hN hi hj hl hij hil hjl hx hy hz ha hw rfl) fun D σ H h => by
    obtain ⟨w, s, hw, rm, rs, p⟩ := par_core h
    refine ⟨w, s, hw, rm, rs, ?_⟩
    refine p.imp fun vs H1 ⟨w1, s1, ds, s', e1, rm1, rs1, rvs, hs, p1⟩ => ?_
    subst e1
    match ds, hs, rvs with
    | [d, d', d''], hs, rvs =>
      obtain ⟨v, v', v'', rfl, rv, rv', rv''⟩ := rvs.three
      simp only [setAll] at hs
      cases hs
      exact ⟨v, v', v'', rfl, p1 w1 _ rfl rm1 (Fr.refl w1) (((rs1.set' i rv).set' j rv').set' l rv'')⟩
    | [], hs, _ => simp [setAll] at hs
    | [_], hs, _ => simp [setAll] at hs
    | [_, _], hs, _ => simp [setAll] at hs
    | _ :: _ :: _ :: _ :: _, hs, _ => simp [setAll] at hs
theorem ss_setLc {i : Nat} {y : Str} {py : Pos} {elt tg iter : Expr} {ifs : List Expr} {scope : Scope} {own : List (Str × Nat)} {vs : List Nat} {spos : Pos} {tp mt : Bool} {it : It} (hvs : own.map (·.2) = vs) (hc : X.calm = true) (hN : X.N.Nodup) (hy : X.N[i]? = some y) (hyl : X.env.scope.names.lookup y = some .local)
    (hsw : swapsWith (.ListComp elt [⟨tg, iter, ifs, 0⟩] scope pos) (some (.Name y py)) spos.line X.env = pure true) (hi : PI X tg iter (eI X Z W it)) (ok : BlkOk X.N X.env.scope scope own)
    (hg : ∀ (s : Shared) (H : Hp) (C : Addr) (cl : List (Str × Addr)) (fp : List Addr), PG (X.blk s H scope (compEnvC scope cl C X.env) fp) tg (gT X.K tp vs)) (ht : ∀ (s : Shared) (H : Hp) (C : Addr) (cl : List (Str × Addr)) (fp : List Addr), PTs (X.blk s H scope (compEnvC scope cl C X.env) fp) ifs (ttOf X Z c))
    (he : ∀ (s : Shared) (H : Hp) (C : Addr) (cl : List (Str × Addr)) (fp : List Addr), PE (X.blk s H scope (compEnvC scope cl C X.env) fp) elt (eE X Z W0 a)) (hs : ∀ x, foldedSetIterable iter X.env x = pure x) :
    PS X (.Assign [.Name y py] (.ListComp elt [⟨tg, iter, ifs, 0⟩] scope pos) spos) (eS X Z W (.asg (.nm i) (.nl mt (.comp a tp vs it c)))) := by
  have h := ps_setLc hc hN hy hyl hsw hi ok hg ht he hs
  rw [hvs] at h
  refine ps_imp h fun D σ H ⟨w, s, hw, rm, rs, p⟩ => ?_
  subst hw
  simp only [evS] at p
  have q : eE X Z W (.nl mt (.comp a tp vs it c)) σ w.H fun x H1 => gName i x σ H1 D.nx := ⟨w, s, rfl, rm, rs, p.split fun d w1 v rm1 fr rv p1 => by
    simp only [asg1] at p1
    split at p1
    · exact p1 w1 _ rfl rm1 (Fr.refl w1) ((rs.mono fr.wk).set' i rv)
    · exact p1.elim⟩
  exact lc_sound (nl_imp q)
theorem ss_exp (he : PE X e (eE X Z W a)) (hs : swapsWith e none pos.line X.env = pure false) : PS X (.Expr e pos) (eS X Z W (.exp a)) := ps_imp (ps_expr he hs) fun D σ H ⟨w, s, hw, rm, rs, p⟩ => by
  subst hw
  simp only [evS] at p
  exact ⟨w, s, rfl, rm, rs, p.split fun d w1 v rm1 fr rv p1 => p1 w1 σ rfl rm1 (Fr.refl w1) (rs.mono fr.wk)⟩
theorem ss_ret (he : PE X e (eE X Z W a)) : PS X (.Return (some e) pos) (eS X Z W (.ret a)) := ps_imp (ps_ret he) fun D σ H ⟨w, s, hw, rm, rs, p⟩ => by
  subst hw
  simp only [evS] at p
  exact ⟨w, s, rfl, rm, rs, p.split fun d w1 v rm1 fr rv p1 => p1 w1 v rfl rm1 (Fr.refl w1) rv⟩
theorem ss_nil : PSs X [] (eS X Z W .nop) := pss_imp pss_nil fun D σ H ⟨w, s, hw, rm, rs, p⟩ => by
  subst hw
  simp only [evS] at p
  exact p w σ rfl rm (Fr.refl w) rs
theorem ss_seq (h1 : PS X st (eS X Z W sa)) (h2 : PSs X rest (eS X Z W sb)) : PSs X (st :: rest) (eS X Z W (.seq sa sb)) := pss_imp (pss_cons h1 h2) fun D σ H ⟨w, s, hw, rm, rs, p⟩ => by
  subst hw
  simp only [evS] at p
  refine ⟨w, s, rfl, rm, rs, ?_⟩
  cases hr : evS Z.G Z.cl sa s w.m with
  | err => rw [hr] at p; exact p
  | exc x m => rw [hr] at p; exact p
  | ok f m =>
    rw [hr] at p
    cases f with
    | nx s1 =>
      intro w1 σ1 hm rm1 fr rs1
      have p2 : PostS X.K Z.cn X.mg D W w (evS Z.G Z.cl sb s1 m) := p
      rw [← hm] at p2
      exact ⟨w1, s1, rfl, rm1, rs1, p2.later fr⟩
    | rt d => exact p
    | bk s1 => exact p
theorem ss_if (hc : PT X e (eT X Z W a)) (h1 : PSs X sts (eS X Z W sa)) (h2 : PSs X sts2 (eS X Z W sb)) : PS X (.If e sts sts2 pos) (eS X Z W (.ite a sa sb)) := ps_imp (ps_if hc h1 h2) fun D σ H ⟨w, s, hw, rm, rs, p⟩ => by
  subst hw
  simp only [evS] at p
  refine ⟨w, s, rfl, rm, rs, p.split fun b w1 b' rm1 fr hb p1 => ?_⟩
  have hb : b' = b := hb
  subst hb
  cases b' with
  | true => rw [if_pos rfl] at p1 ⊢; exact ⟨w1, s, rfl, rm1, rs.mono fr.wk, p1⟩
  | false => rw [if_neg Bool.false_ne_true] at p1 ⊢; exact ⟨w1, s, rfl, rm1, rs.mono fr.wk, p1⟩
theorem ss_brk : PS X (.Break pos) (eS X Z W .brk) := ps_imp ps_break fun D σ H ⟨w, s, hw, rm, rs, p⟩ => by
  subst hw
  simp only [evS] at p
  exact p w σ rfl rm (Fr.refl w) rs
theorem ss_never : PS X st (eS X Z W .never) := ps_imp ps_never fun D σ H ⟨w, s, hw, rm, rs, p⟩ => by
  simp only [evS] at p
  exact p.elim
theorem ss_frz {i : Nat} (h : PSs X sts (eS X Z W sa)) : PSs X sts (eS X Z W (.seq (.frz i) sa)) := pss_imp h fun D σ H ⟨w, s, hw, rm, rs, p⟩ => by
  subst hw
  simp only [evS] at p
  cases hs : s[i]? with
  | none => rw [hs] at p; exact p.elim
  | some o =>
    rw [hs] at p
    cases o with
    | none => exact p.elim
    | some d =>
      obtain ⟨v, hv, rv⟩ := rs.2 i d hs
      cases rv with
      | @ref q n hM =>
        cases hc : w.m[n]? with
        | none => simp only [hc] at p; exact p.elim
        | some c =>
          simp only [hc] at p
          cases c with
          | lst l =>
            have p2 : PostS X.K Z.cn X.mg D W w (evS Z.G Z.cl sa (s.set i (some (.lst l))) (w.m.set n .dead)) := p
            refine ⟨w.kill n, s.set i (some (.lst l)), rfl, rm.kill n, ?_, p2.later Fr.kill⟩
            refine ⟨by rw [List.length_set]; exact rs.1, fun j e he => ?_⟩
            by_cases hj : i = j
            · subst hj
              rw [List.getElem?_set_self (List.getElem?_eq_some_iff.mp hs).1] at he
              cases he
              exact ⟨_, hv, Rv.killed rm hM hc⟩
            · rw [List.getElem?_set_ne hj] at he
              obtain ⟨u, h1, h2⟩ := rs.2 j e he
              exact ⟨u, h1, h2.mono Fr.kill.wk⟩
          | dead => exact p.elim
          | ins _ _ => exact p.elim
          | dic _ => exact p.elim
      | non => exact p.elim
      | bl _ => exact p.elim
      | int _ => exact p.elim
      | str _ => exact p.elim
      | tup _ _ => exact p.elim
      | lst _ _ => exact p.elim
      | scr _ _ => exact p.elim
theorem ss_rse {bmB : List Value} {B newId initId : String} {C : Addr} {x m : Str} {j : Nat} {p p2 : Pos} (hc : X.calm = true) (tk : L2N.Takes X W) (F : ExcBaseFacts B newId initId bmB) (q : PySem.W.excIn X.K C bmB newId = true) (gC : X.mg x = some (.ref C)) (kC : PySem.W.keepIn X.K (.ref C) = true) (r : Raises X (.ref C)) (hg : Gl X x)
    (hdb : (x == ("__debug__" : Str)) = false) : PS X (.Raise (some (.Call (.Name x p) [.Constant (.str m) j p2] [] pos2)) none pos) (eS X Z W (.rse x)) := ps_imp (L2N.ps_raise hc tk (L2N.pmk_own F q gC kC r hg hdb)) fun D σ H ⟨w, s, hw, rm, rs, p⟩ => by
  subst hw
  simp only [evS] at p
  exact p w σ (.ref C) none rfl rm (Fr.refl w) gC (.inl ⟨rfl, rfl⟩)
/-! ### loops -/
theorem ss_for {tg : Expr} {it : It} {tp : Bool} {vs : List Nat} (hp : PassesOwn (model X.prog X.w) X.A X.env X.xe) (hc : X.calm = true) (hi : PI X tg e (eI X Z W it)) (hg : PG X tg (gT X.K tp vs)) (hb : PSs X sts (eS X Z W sa)) (hs : ∀ x, foldedSetIterable e X.env x = pure x) :
    PS X (.For tg e sts [] pos) (eS X Z W (.loop tp vs it sa)) := ps_imp (ps_for hp hc hi hg hb hs) fun D σ H ⟨w, s, hw, rm, rs, p⟩ => by
  subst hw
  simp only [evS] at p
  refine ⟨w, s, rfl, rm, rs, p.split fun items w0 J rm0 fr0 ⟨sv, hlim⟩ p0 => ?_⟩
  generalize hF : (fun (d : LR.D) (s : Sl) (m : Mem) => match asgN tp vs d s with
    | none => R.err
    | some s => evS Z.G Z.cl sa s m) = F at p0
  generalize hR : forL F items s w0.m = R0 at p0
  refine ⟨fun i m' σ H => m' = items.length - i ∧ i ≤ items.length ∧ ∃ (wi : Wd) (si : Sl), wi.H = H ∧ RM X.K Z.cn wi ∧ Fr w0 wi ∧ RS X.K wi σ si ∧ forL F (items.drop i) si wi.m = R0,
    ⟨items.length, by simp, Nat.zero_le _, w0, s, rfl, rm0, Fr.refl w0, rs.mono fr0.wk, hR⟩, ?_⟩
  rintro i m' σ H ⟨rfl, hi, wi, si, rfl, rmi, fri, rsi, hc⟩
  by_cases hlt : i < items.length
  · obtain ⟨go, yl⟩ := sv.1 wi i rmi fri.wk hlt
    refine .inr ⟨go, fun σ' H' => ∃ m'', m'' < items.length - i ∧ (m'' = items.length - (i + 1) ∧ i + 1 ≤ items.length ∧ ∃ (wi : Wd) (si : Sl), wi.H = H' ∧ RM X.K Z.cn wi ∧ Fr w0 wi ∧ RS X.K wi σ' si ∧ forL F (items.drop (i + 1)) si wi.m = R0), fun _ _ h => h, fun x H' y => ?_⟩
    obtain ⟨w1, d, hw1, hm1, rm1, fr1, hd, rx⟩ := yl x H' y
    subst hw1
    have hd' : items[i] = d := by
      rw [List.getElem?_eq_getElem hlt] at hd
      exact Option.some.inj hd
    rw [List.drop_eq_getElem_cons hlt, hd', ← hm1, forL] at hc
    have hFd : F d si w1.m = (match asgN tp vs d si with
      | none => R.err
      | some s => evS Z.G Z.cl sa s w1.m) := by rw [← hF]
    rw [hFd] at hc
    cases hs : asgN tp vs d si with
    | none =>
      rw [hs] at hc
      rw [← hc] at p0
      exact p0.elim
    | some s1 =>
      simp only [hs] at hc
      refine gT_run hs (rsi.mono fr1.wk) rx fun σ2 rs2 _ => ⟨w1, s1, rfl, rm1, rs2, ?_⟩
      have p1 := p0.later (fri.trans fr1)
      cases hr : evS Z.G Z.cl sa s1 w1.m with
      | err => rw [hr] at hc; rw [← hc] at p1; exact p1.elim
      | exc x m => rw [hr] at hc; rw [← hc] at p1; exact p1
      | ok f m =>
        rw [hr] at hc
        cases f with
        | nx s2 =>
          intro w2 σ3 hm rm2 fr2 rs3
          refine ⟨_, by omega, rfl, hlt, w2, s2, rfl, rm2, (fri.trans fr1).trans fr2, rs3, ?_⟩
          rw [hm]
          exact hc
        | bk s2 => rw [← hc] at p1; exact p1
        | rt d => rw [← hc] at p1; exact p1
  · have e : i = items.length := by omega
    subst e
    refine .inl ⟨sv.2 wi rmi fri.wk, ?_⟩
    rw [List.drop_length, forL] at hc
    rw [← hc] at p0
    exact p0 wi σ rfl rmi fri rsi
/-- over a list that may change -/
def eLp (X : Cx) (Z : Ec) (W : WX) (a : E) : TI := fun σ H Q => ∃ (w : Wd) (s : Sl), w.H = H ∧ RM X.K Z.cn w ∧ RS X.K w σ s ∧ Post X.K Z.cn X.mg (fun w' (J : L2.It) (n : Nat) => ∃ p, w'.M[n]? = some p ∧ J = Itl X.K p) Q (WE W σ) w ((ev Z.G Z.cl a s w.m).bind fun x m => opt m (refOf m x))
theorem si_lp {tg : Expr} (ha : PE X e (eE X Z W a)) : PI X tg e (eLp X Z W a) :=
  pi_imp (pi_seqA ha) fun σ H Q ⟨w, s, hw, rm, rs, p⟩ => by
    subst hw
    refine ⟨w, s, rfl, rm, rs, p.split fun d w1 v rm1 fr rv p1 => ?_⟩
    obtain ⟨n, hn, q⟩ := p1.opt
    unfold refOf at hn
    split at hn
    · split at hn
      · rename_i l hcell
        cases hn
        cases rv with
        | @ref b _ hM =>
          obtain ⟨ys, h1, h2⟩ := rm1.lst hM hcell
          exact ⟨b, rfl, .inl ⟨⟨ys, .inl (.inl h1)⟩, q w1 _ rfl rm1 (Fr.refl w1) ⟨b, hM, rfl⟩⟩⟩
      · cases hn
    · cases hn
theorem ss_lop {tg : Expr} {tp : Bool} {vs : List Nat} (hp : PassesOwn (model X.prog X.w) X.A X.env X.xe) (hc : X.calm = true) (hi : PE X e (eE X Z W a)) (hg : PG X tg (gT X.K tp vs)) (hb : PSs X sts (eS X Z W sa)) (hs : ∀ x, foldedSetIterable e X.env x = pure x) :
    PS X (.For tg e sts [] pos) (eS X Z W (.lop tp vs a sa)) := ps_imp (ps_for hp hc (si_lp hi) hg hb hs) fun D σ H ⟨w, s, hw, rm, rs, p⟩ => by
  subst hw
  simp only [evS] at p
  refine ⟨w, s, rfl, rm, rs, p.split fun n w0 J rm0 fr0 ⟨pa, hM, hJ⟩ p0 => ?_⟩
  subst hJ
  generalize hF : (fun (d : LR.D) (s : Sl) (m : Mem) => match asgN tp vs d s with
    | none => R.err
    | some s => evS Z.G Z.cl sa s m) = F at p0
  generalize hR : lopL n F (lim + 1) 0 s w0.m = R0 at p0
  refine ⟨fun i m' σ H => ∃ (wi : Wd) (si : Sl), wi.H = H ∧ RM X.K Z.cn wi ∧ Fr w0 wi ∧ RS X.K wi σ si ∧ lopL n F m' i si wi.m = R0,
    ⟨lim + 1, w0, s, rfl, rm0, Fr.refl w0, rs.mono fr0.wk, hR⟩, ?_⟩
  rintro i m' σ H ⟨wi, si, rfl, rmi, fri, rsi, hc⟩
  cases m' with
  | zero =>
    rw [lopL] at hc
    rw [← hc] at p0
    exact p0.elim
  | succ k =>
    rw [lopL] at hc
    have hMi : wi.M[n]? = some pa := by
      have h := (Rv.ref (K := X.K) (w := w0) hM).mono fri.wk
      cases h
      assumption
    cases hcell : wi.m[n]? with
    | none =>
      rw [hcell] at hc
      rw [← hc] at p0
      exact p0.elim
    | some c =>
      rw [hcell] at hc
      cases c with
      | lst l =>
        obtain ⟨ys, h1, h2⟩ := rmi.lst hMi hcell
        have sq : SqL X.K wi.H pa ys := .inl (.inl h1)
        simp only at hc
        cases hl : l[i]? with
        | none =>
          rw [hl] at hc
          refine .inl ⟨⟨ys, sq, by rw [h2.length]; exact List.getElem?_eq_none_iff.mp hl⟩, ?_⟩
          rw [← hc] at p0
          exact p0 wi σ rfl rmi fri rsi
        | some d =>
          rw [hl] at hc
          obtain ⟨v, hv, rv⟩ := h2.get hl
          refine .inr ⟨⟨ys, v, sq, hv⟩, fun σ' H' => ∃ m'', m'' < k + 1 ∧ ∃ (wi : Wd) (si : Sl), wi.H = H' ∧ RM X.K Z.cn wi ∧ Fr w0 wi ∧ RS X.K wi σ' si ∧ lopL n F m'' (i + 1) si wi.m = R0, fun _ _ h => h, fun x H' y => ?_⟩
          obtain ⟨e1, e2⟩ := y
          subst e1
          obtain rfl : v = x := by
            have h := e2 ys sq
            rw [hv] at h
            exact Option.some.inj h
          simp only at hc
          have hFd : F d si wi.m = (match asgN tp vs d si with
            | none => R.err
            | some s => evS Z.G Z.cl sa s wi.m) := by rw [← hF]
          rw [hFd] at hc
          cases hs : asgN tp vs d si with
          | none =>
            rw [hs] at hc
            rw [← hc] at p0
            exact p0.elim
          | some s1 =>
            simp only [hs] at hc
            refine gT_run hs rsi rv fun σ2 rs2 _ => ⟨wi, s1, rfl, rmi, rs2, ?_⟩
            have p1 := p0.later fri
            cases hr : evS Z.G Z.cl sa s1 wi.m with
            | err => rw [hr] at hc; rw [← hc] at p1; exact p1.elim
            | exc x m => rw [hr] at hc; rw [← hc] at p1; exact p1
            | ok f m =>
              rw [hr] at hc
              cases f with
              | nx s2 =>
                intro w2 σ3 hm rm2 fr2 rs3
                refine ⟨k, by omega, w2, s2, rfl, rm2, fri.trans fr2, rs3, ?_⟩
                rw [hm]
                exact hc
              | bk s2 => rw [← hc] at p1; exact p1
              | rt d => rw [← hc] at p1; exact p1
      | _ =>
        rw [← hc] at p0
        exact p0.elim
theorem ss_whl (hp : PassesOwn (model X.prog X.w) X.A X.env X.xe) (hc : PT X e (eT X Z W a)) (hb : PSs X sts (eS X Z W sa)) : PS X (.While e sts [] pos) (eS X Z W (.whl a sa)) := ps_imp (ps_while hp hc hb) fun D σ H ⟨w, s, hw, rm, rs, p⟩ => by
  subst hw
  simp only [evS] at p
  generalize hR : whL (fun s m => tst (ev Z.G Z.cl a s m)) (fun s m => evS Z.G Z.cl sa s m) lim s w.m = R0 at p
  refine ⟨fun m' σ H => ∃ (wi : Wd) (si : Sl), wi.H = H ∧ RM X.K Z.cn wi ∧ Fr w wi ∧ RS X.K wi σ si ∧ whL (fun s m => tst (ev Z.G Z.cl a s m)) (fun s m => evS Z.G Z.cl sa s m) m' si wi.m = R0,
    ⟨lim, w, s, rfl, rm, Fr.refl w, rs, hR⟩, ?_⟩
  rintro m' σ H ⟨wi, si, rfl, rmi, fri, rsi, hc⟩
  cases m' with
  | zero => rw [whL] at hc; rw [← hc] at p; exact p.elim
  | succ n =>
    rw [whL] at hc
    have pi := p.later fri
    refine ⟨wi, si, rfl, rmi, rsi, ?_⟩
    cases hr : tst (ev Z.G Z.cl a si wi.m) with
    | err => rw [hr] at hc; rw [← hc] at pi; exact pi.elim
    | exc x m => rw [hr] at hc; rw [← hc] at pi; exact fun w' cls d hm rm fr h1 h2 => pi w' σ cls d hm rm fr h1 h2
    | ok b m =>
      intro w1 b' hm rm1 fr1 hbb
      have hbb : b' = b := hbb
      subst hbb
      rw [hr] at hc
      have p1 := pi.later fr1
      cases b' with
      | false =>
        rw [if_neg Bool.false_ne_true]
        have hc : R.ok (Fl.nx si) m = R0 := hc
        rw [← hc] at p1
        exact p1 w1 σ hm rm1 (Fr.refl w1) (rsi.mono fr1.wk)
      | true =>
        rw [if_pos rfl]
        have hc : ((evS Z.G Z.cl sa si m).bind fun r m => (match r with
          | .nx s => whL (fun s m => tst (ev Z.G Z.cl a s m)) (fun s m => evS Z.G Z.cl sa s m) n s m
          | .bk s => R.ok (Fl.nx s) m
          | .rt d => R.ok (Fl.rt d) m)) = R0 := hc
        rw [← hm] at hc
        refine ⟨fun σ' H' => ∃ m', m' < n + 1 ∧ ∃ (wi : Wd) (si : Sl), wi.H = H' ∧ RM X.K Z.cn wi ∧ Fr w wi ∧ RS X.K wi σ' si ∧ whL (fun s m => tst (ev Z.G Z.cl a s m)) (fun s m => evS Z.G Z.cl sa s m) m' si wi.m = R0, fun _ _ h => h, w1, si, rfl, rm1, rsi.mono fr1.wk, ?_⟩
        cases hr2 : evS Z.G Z.cl sa si w1.m with
        | err => rw [hr2] at hc; rw [← hc] at p1; exact p1.elim
        | exc x m => rw [hr2] at hc; rw [← hc] at p1; exact p1
        | ok f m2 =>
          rw [hr2] at hc
          cases f with
          | nx s2 =>
            intro w2 σ3 hm2 rm2 fr2 rs3
            refine ⟨n, Nat.lt_succ_self n, w2, s2, rfl, rm2, (fri.trans fr1).trans fr2, rs3, ?_⟩
            rw [hm2]
            exact hc
          | bk s2 => rw [← hc] at p1; exact p1
          | rt d => rw [← hc] at p1; exact p1
end
end LR

set_option Elab.async false
set_option linter.all false
set_option maxRecDepth 100000
set_option maxHeartbeats 4000000
namespace LR
open PySem PySem.Spec PyProof.Rows L2
/-! ### methods and makers whose exceptions are met at the slots -/
section
variable {X : Cx} {CX : CXT} {k : Nat} {f C : Addr} {fd : FuncData} {ps : List Str} {sp : Sp} {E : L2.St → XK} {x m : Str} {p pos apos : Pos} {e o : Expr} {es : List Expr} {ta : TE} {t : TA}
def tMethE (C : Addr) (m : Str) (sp : Sp) (E : L2.St → XK) (ta : TE) (t : TA) : TE := fun σ H Q => ta σ H fun x H1 => ∃ a dx fs, x = .ref a ∧ H1 a = some (.ins C dx fs) ∧ fs.lookup m = none ∧ t σ H1 fun vs H2 => sp (x :: vs) H2 Q (E σ)
theorem pe_methE {pl : Sem Bool} (he : PE X o ta) (c : Cls X.K C) (hm : Meth X.K C m f) (F : FnOk X.prog X.w X.K X.mg X.base CX k f fd ps sp) (hr : Room k X.A) (hb : Binds X.K fd ps []) (hx : ∀ σ, PassesAt CX X σ (E σ)) (ha : PA X (e :: es) t)
    (hst : starEach (e :: es) X.env = (false, eval e X.env) :: starEach es X.env) (hpl : (backTo pos (starEach es X.env)).any (·.1) = false)
    (ht : eval (.Call (.Attribute o m apos) (e :: es) [] pos) X.env = (do
      let ov ← eval o X.env
      standAt apos.atName
      let (f, first) ← holding [ov] (getMethod ov m pl)
      callWith pos f first (backTo pos (starEach (e :: es) X.env)) (backToKw pos (keywordEach [] X.env)))) :
    PE X (.Call (.Attribute o m apos) (e :: es) [] pos) (tMethE C m sp E ta t) := by
  refine ⟨fun pins s σ H Q I h => ?_⟩
  refine PySem.W.methodCall_KW (pl := pl) (thn (he.run pins s σ H _ I h) fun u s1 ⟨x, H1, I1, rx, a, dx, fs, ex, ea, l, q⟩ => ?_) ht
  subst ex
  obtain rfl : u = Value.ref a := rx
  refine getmeth_ok I1 ea c hm l ?_
  refine PySem.W.callWith_K (first := [.ref a]) (h₀ := X.base) I.ok.mod.kin hm.kp (thn (ha.run pos pins s1 σ H1 _ I1 q) fun us s2 ⟨vs, H2, I2, r, q2⟩ => ⟨I2.kIn, ?_⟩) hst hpl
  exact run_fnS (us := .ref a :: us) (vs := .ref a :: vs) F hr hb (hx σ) I2 (.cons rfl r) q2
theorem run_makeS {pins : List (Addr × Obj)} {σ : L2.St} {H : Hp} {s : Shared} {Q : VK} {us : List Value} {vs : List V} {E : XK} (M : Mk X.K C f) (F : FnOk X.prog X.w X.K X.mg X.base CX k f fd ps sp) (hr : Room (k + 1) X.A) (hb : Binds X.K fd ps [])
    (hx : PassesAt CX X σ E) (I : Inv X pins σ H s) (r : Vals vs us)
    (h : ∀ x dx, H x = none → H dx = none → dx ≠ x → sp (.ref x :: vs) (upd (upd H dx (.own x)) x (.ins C dx [])) (fun v H2 => v = .non ∧ Q (.ref x) H2) E) :
    wpAny (model X.prog X.w) X.A (call (.ref C) us) (EP X pins σ Q) X.xe s := by
  have hq := h (s.heap.objs.size + 1) s.heap.objs.size (I.hok.fresh (Nat.le_succ _)) (I.hok.fresh (Nat.le_refl _)) (Nat.ne_of_lt (Nat.lt_succ_self _))
  have I2 := Inv.made (C := C) I
  have r2 : Vals (V.ref (s.heap.objs.size + 1) :: vs) (Value.ref (s.heap.objs.size + 1) :: us) := .cons rfl r
  have hl : (Value.ref (s.heap.objs.size + 1) :: us).length = ps.length := by
    have e := r2.length
    rw [F.len _ _ _ _ hq] at e
    exact e.symm
  have b := hb _ (Value.ref (s.heap.objs.size + 1) :: us) I2.kIn (by rw [List.append_nil]; exact hl)
  rw [List.append_nil] at b
  refine wpAny_call (make_map (f := f) I.kIn M.makes M.init (beq_iff_eq.mp M.fn) (codeAny_mono (F.run _ X.stack _ _ ⟨Value.ref (s.heap.objs.size + 1) :: us, []⟩ (Value.ref (s.heap.objs.size + 1) :: us) _ _ E (hr.make C us [])
    (I2.env0.make C us []) b r2 hq) fun r s' hq' => ?_))
  cases r with
  | error e => exact hx pins _ _ e s' I2 hq'
  | ok fl =>
    cases fl with
    | ret u =>
      obtain ⟨v, H', I3, rv, ev, q3⟩ := I2.after hq'
      subst ev
      exact ⟨rv, ⟨V.ref (s.heap.objs.size + 1), H', I3, rfl, q3⟩⟩
    | next => exact False.elim hq'
    | brk => exact False.elim hq'
    | cont => exact False.elim hq'
def tMakeE (C : Addr) (sp : Sp) (E : L2.St → XK) (t : TA) : TE := fun σ H Q => t σ H fun vs H1 => ∀ x dx, H1 x = none → H1 dx = none → dx ≠ x → sp (.ref x :: vs) (upd (upd H1 dx (.own x)) x (.ins C dx [])) (fun v H2 => v = .non ∧ Q (.ref x) H2) (E σ)
theorem pe_makeE (M : Mk X.K C f) (F : FnOk X.prog X.w X.K X.mg X.base CX k f fd ps sp) (hr : Room (k + 1) X.A) (hg : Gl X x) (hm : X.mg x = some (.ref C)) (hb : Binds X.K fd ps []) (hx : ∀ σ, PassesAt CX X σ (E σ))
    (ha : PA X (e :: es) t) (hdb : (x == ("__debug__" : Str)) = false) (he : starEach (e :: es) X.env = (false, eval e X.env) :: starEach es X.env) (hpl : (backTo pos (starEach es X.env)).any (·.1) = false) :
    PE X (.Call (.Name x p) (e :: es) [] pos) (tMakeE C sp E t) := by
  refine ⟨fun pins s σ H Q I h => ?_⟩
  refine wpAny_Call_Name_kw (ld_glob I hg hm ?_ hdb)
  refine PySem.W.callWith_K (h₀ := X.base) I.ok.mod.kin M.kp (thn (ha.run pos pins s σ H _ I h) fun us s1 ⟨vs, H1, I1, r, q⟩ => ⟨I1.kIn, ?_⟩) he hpl
  exact run_makeS M F hr hb (hx σ) I1 r q
theorem pe_makeE0 (M : Mk X.K C f) (F : FnOk X.prog X.w X.K X.mg X.base CX k f fd ps sp) (hr : Room (k + 1) X.A) (hg : Gl X x) (hm : X.mg x = some (.ref C)) (hb : Binds X.K fd ps []) (hx : ∀ σ, PassesAt CX X σ (E σ))
    (hdb : (x == ("__debug__" : Str)) = false) : PE X (.Call (.Name x p) [] [] pos) (tMakeE C sp E tNil) := by
  refine ⟨fun pins s σ H Q I h => ?_⟩
  refine wpAny_Call_Name_kw (ld_glob I hg hm ?_ hdb)
  exact PySem.W.callWith_K0 I.kIn M.kp (run_makeS (us := []) M F hr hb (hx σ) I .nil h)
end
/-! ### instances in the evaluator's world -/
theorem RM.ins {K : PySem.W.Frag} {cn : Cn} {w : Wd} {C : Str} {fs : List (Str × D)} (rm : RM K cn w) {n : Nat} {a : Addr} (hM : w.M[n]? = some a) (hc : w.m[n]? = some (.ins C fs)) : ∃ dx fs', w.H a = some (.ins (cn.ad C) dx fs') ∧ RFs K w fs' fs := rm.cell n _ a hc hM
theorem insOf_some {m : Mem} {d : D} {q : Str × List (Str × D)} (h : insOf m d = some q) : ∃ n, d = .ref n ∧ m[n]? = some (.ins q.1 q.2) := by
  unfold insOf at h
  split at h
  · rename_i n
    split at h
    · rename_i C fs hc
      cases h
      exact ⟨n, rfl, hc⟩
    · cases h
  · cases h
theorem RFs.look {K : PySem.W.Frag} {w : Wd} (x : Str) : ∀ {fs' : List (Str × V)} {fs : List (Str × D)}, RFs K w fs' fs → (fs'.lookup x = none ∧ fs.lookup x = none) ∨ ∃ v d, fs'.lookup x = some v ∧ fs.lookup x = some d ∧ Rv K w v d
  | _, _, .nil => .inl ⟨rfl, rfl⟩
  | _, _, .cons (x := y) r t => by
    have ih := RFs.look x t
    rw [List.lookup_cons, List.lookup_cons]
    cases h : x == y with
    | true => exact .inr ⟨_, _, rfl, rfl, r⟩
    | false => exact ih
theorem RFs.put {K : PySem.W.Frag} {w : Wd} (x : Str) {v : V} {d : D} (rv : Rv K w v d) : ∀ {fs' : List (Str × V)} {fs : List (Str × D)}, RFs K w fs' fs → RFs K w (putF x v fs') (putFD x d fs)
  | _, _, .nil => .cons rv .nil
  | _, _, .cons (x := y) r t => by
    unfold putF putFD
    by_cases h : y = x
    · rw [if_pos h, if_pos h]
      exact .cons rv t
    · rw [if_neg h, if_neg h]
      exact .cons r (RFs.put x rv t)
theorem RFs.length {K : PySem.W.Frag} {w : Wd} : ∀ {fs' : List (Str × V)} {fs : List (Str × D)}, RFs K w fs' fs → fs'.length = fs.length
  | _, _, .nil => rfl
  | _, _, .cons _ t => congrArg (· + 1) (RFs.length t)
section
variable {X : Cx} {Z : Ec} {W : WX} {e e1 e2 o : Expr} {es : List Expr} {a b c : E} {as : Es} {pos pos2 apos : Pos}
/-- o.x -/
theorem se_fld {C f : Str} (ha : PE X e (eE X Z W a)) (hb : attributeBase e f X.env (eval e X.env) = eval e X.env) (hc : Cls X.K (Z.cn.ad C)) (hn : NoAttr X.K (Z.cn.ad C) f) : PE X (.Attribute e f pos) (eE X Z W (.fld a C f)) :=
  pe_imp (pe_fld ha hb) fun σ H Q ⟨w, s, hw, rm, rs, p⟩ => by
    subst hw
    rw [ev] at p
    refine ⟨w, s, rfl, rm, rs, p.split fun d w1 v rm1 fr rv p1 => ?_⟩
    obtain ⟨y, hy, q⟩ := p1.opt
    obtain ⟨⟨C', fs⟩, h1, hz0⟩ := Option.bind_eq_some_iff.mp hy
    have hz : (if C' = C then fs.lookup f else none) = some y := hz0
    clear hz0
    by_cases hC : C' = C
    · rw [if_pos hC] at hz
      subst hC
      obtain ⟨n, rfl, hcell⟩ := insOf_some h1
      cases rv with
      | @ref a _ hM =>
        obtain ⟨dx, fs', h2, h3⟩ := rm1.ins hM hcell
        have h3 : RFs X.K w1 fs' fs := h3
        rcases RFs.look f h3 with ⟨h4, h5⟩ | ⟨v, d, h4, h5, h6⟩
        · rw [h5] at hz; cases hz
        · rw [h5] at hz
          cases hz
          exact ⟨a, _, dx, fs', v, rfl, h2, hc, hn, h4, q w1 v rfl rm1 (Fr.refl w1) h6⟩
    · rw [if_neg hC] at hz
      cases hz
/-- d[k] -/
theorem se_dget (hP : Z.cn.P = X.prog) (hw : Z.cn.w = X.w) (hu : X.A.units + 64 < cLine) (ho : PE X e1 (eE X Z W a)) (hi : PE X e2 (eE X Z W b)) (hs : NoSl e2) : PE X (.Subscript e1 e2 pos) (eE X Z W (.dget a b)) :=
  pe_imp (pe_nget hu ho hi hs) fun σ H Q ⟨w, s, hw', rm, rs, p⟩ => by
    subst hw'
    rw [ev] at p
    refine ⟨w, s, rfl, rm, rs, p.split fun dx w1 x rm1 fr1 rx p1 => ?_⟩
    refine ⟨w1, s, rfl, rm1, rs.mono fr1.wk, p1.split fun dy w2 y rm2 fr2 ry p2 => ?_⟩
    obtain ⟨d, hd, q⟩ := p2.opt
    obtain ⟨kvs, h1, hd⟩ := Option.bind_eq_some_iff.mp hd
    obtain ⟨k, h2, hd⟩ := Option.bind_eq_some_iff.mp hd
    obtain ⟨ad, o, rfl, g, h3⟩ := dic_get hP hw rm2 (rx.mono fr2.wk) ry h1 h2
    rcases h3 with ⟨_, h4⟩ | ⟨v, d', rfl, h4, h5⟩
    · rw [h4] at hd; cases hd
    · rw [h4] at hd
      cases hd
      exact ⟨ad, v, rfl, g, q w2 v rfl rm2 (Fr.refl w2) h5⟩
/-- {} -/
theorem se_dnw (hP : Z.cn.P = X.prog) (hw : Z.cn.w = X.w) : PE X (.Dict [] [] pos) (eE X Z W .dnw) :=
  pe_imp pe_dnewN fun σ H Q ⟨w, s, hw', rm, rs, p⟩ => by
    subst hw'
    rw [ev] at p
    intro q hq
    have p : ∀ (w' : Wd) (b : V), w'.m = w.m ++ [.dic []] → RM X.K Z.cn w' → Fr w w' → Rv X.K w' b (.ref w.m.length) → Q b w'.H := p
    refine p (w.alloc q (NdO X.prog X.w q []) (.dic [])) (.ref q) rfl (rm.alloc hq ⟨[], ?_, .nil⟩) (Fr.alloc rm hq) (.ref ?_)
    · rw [hP, hw]
      exact upd_same
    · show (w.M ++ [q])[w.m.length]? = some q
      rw [← rm.len, List.getElem?_append_right (Nat.le_refl _)]
      simp
/-- d[k] = v, k new -/
theorem sg_dk (hP : Z.cn.P = X.prog) (hw : Z.cn.w = X.w) (hu : X.A.units + 64 < cLine) (ho : PE X o (eE X Z W a)) (hi : PE X e (eE X Z W b))
    (ha : ∀ v, assign (.Subscript o e pos) X.env v = (do
      let ov ← holding [v] (eval o X.env)
      let iv ← holding [v, ov] (eval e X.env)
      standAt pos
      holding [v, ov, iv] (setItem ov iv v)
      release [v, ov, iv] [])) : PG X (.Subscript o e pos) (eG X Z W (.dk a b)) := pg_imp (pg_sub ho hi (set_nd hu) ha) fun v σ H Q ⟨w, s, d, hw', rm, rs, rv, p⟩ => by
  subst hw'
  simp only [asg1] at p
  refine ⟨w, s, rfl, rm, rs, p.split fun x w1 ov rm1 fr1 rx p1 => ?_⟩
  refine ⟨w1, s, rfl, rm1, rs.mono fr1.wk, p1.split fun y w2 iv rm2 fr2 ry p2 => ?_⟩
  have rx2 := rx.mono fr2.wk
  have rs2 := (rs.mono fr1.wk).mono fr2.wk
  have rv2 := (rv.mono fr1.wk).mono fr2.wk
  unfold setK at p2
  split at p2
  · rename_i n
    split at p2
    · rename_i kvs hc
      split at p2
      · rename_i k hk
        split at p2
        · rename_i hcond
          obtain ⟨l, rfl, hkl, h8⟩ := nkKey_some hk
          cases rx2 with
          | @ref q _ hM =>
            cases ry with
            | @tup b' xs _ f rsx =>
              obtain ⟨es, N, r⟩ := dic_at hP hw rm2 hM hc
              have rkey : Rv X.K w2 (.ref b') (.tup l) := .tup f rsx
              have hlen : es.length < sizeLine := by rw [Paired.length r]; exact lt_line hcond.1
              have hnone : valN es k = none := by
                rcases dic_val k r with ⟨h1, _⟩ | ⟨v', d', _, h2, _⟩
                · exact h1
                · rw [h2] at hcond; exact absurd hcond.2 (by simp)
              have fr3 : Fr w2 (w2.wr n q (NdO X.prog X.w q (es ++ [(k, b', v)])) (.dic (kvs ++ [(k, d)]))) := Fr.wr rm2 hM hc rfl
              refine ⟨q, _, rfl, ⟨es, k, b', N, rfl, Rv.kat rkey hkl, h8, hlen, hnone, rfl⟩, ?_⟩
              refine p2 (w2.wr n q (NdO X.prog X.w q (es ++ [(k, b', v)])) (.dic (kvs ++ [(k, d)]))) σ rfl (rm2.wr hM hc rfl ⟨es ++ [(k, b', v)], ?_, ?_⟩) fr3 (rs2.mono fr3.wk)
              · rw [hP, hw]
                exact upd_same
              · refine paired_snoc ⟨rfl, h8, ⟨l, rkey.mono fr3.wk, hkl⟩, rv2.mono fr3.wk⟩ (Paired.mapP r fun x kv h => ?_)
                obtain ⟨q1, q2, ⟨ds, q3, q4⟩, q5⟩ := h
                exact ⟨q1, q2, ⟨ds, q3.mono fr3.wk, q4⟩, q5.mono fr3.wk⟩
        · exact p2.elim
      · exact p2.elim
    · exact p2.elim
  · exact p2.elim
/-- o.x = e -/
theorem ss_fas {C f : Str} {value : Expr} {pos' : Pos} (ho : PE X o (eE X Z W a)) (hv : PE X value (eE X Z W b)) (hs : swapsWith value (some (.Attribute o f pos')) pos.line X.env = pure false) (hc : Cls X.K (Z.cn.ad C)) (hn : NoAttr X.K (Z.cn.ad C) f) :
    PS X (.Assign [.Attribute o f pos'] value pos) (eS X Z W (.fas a C f b)) := ps_imp (ps_fld ho hv hs) fun D σ H ⟨w, s, hw', rm, rs, p⟩ => by
  subst hw'
  simp only [evS] at p
  refine ⟨w, s, rfl, rm, rs, p.split fun y w1 v rm1 fr1 rv p1 => ?_⟩
  refine ⟨w1, s, rfl, rm1, rs.mono fr1.wk, p1.split fun x w2 ov rm2 fr2 rx p2 => ?_⟩
  have rv2 := rv.mono fr2.wk
  have rs2 := (rs.mono fr1.wk).mono fr2.wk
  unfold setF at p2
  split at p2
  · rename_i n
    split at p2
    · rename_i C' fs hcell
      split at p2
      · rename_i hcond
        obtain ⟨rfl, hlen⟩ := hcond
        cases rx with
        | @ref q _ hM =>
          obtain ⟨dx, fs', h2, h3⟩ := rm2.ins hM hcell
          have fr3 : Fr w2 (w2.wr n q (.ins (Z.cn.ad C') dx (putF f v fs')) (.ins C' (putFD f y fs))) := Fr.wr rm2 hM hcell rfl
          refine ⟨q, _, dx, fs', rfl, h2, hc, hn, by rw [h3.length]; omega, ?_⟩
          exact p2 (w2.wr n q (.ins (Z.cn.ad C') dx (putF f v fs')) (.ins C' (putFD f y fs))) σ rfl (rm2.wr hM hcell rfl ⟨dx, _, upd_same, (h3.put f rv2).mono fr3.wk⟩) fr3 (rs2.mono fr3.wk)
      · exact p2.elim
    · exact p2.elim
  · exact p2.elim
/-- o.m(e, ..) -/
theorem se_mc {C m key : Str} {ad : Addr} {fd : FuncData} {ps : List Str} {n lv : Nat} {pl : Sem Bool} (F : FnOk X.prog X.w X.K X.mg X.base (L2N.CX X.prog X.w) lv ad fd ps (spC X.K Z.cn X.mg (Z.cl key) n)) (hr : Room lv X.A) (c : Cls X.K (Z.cn.ad C)) (hm : Meth X.K (Z.cn.ad C) m ad)
    (hb : Binds X.K fd ps []) (tk : L2N.Takes X W) (ho : PE X o (eE X Z W a)) (ha : PA X (e :: es) (eA X Z W as)) (hst : starEach (e :: es) X.env = (false, eval e X.env) :: starEach es X.env) (hpl : (backTo pos (starEach es X.env)).any (·.1) = false)
    (ht : eval (.Call (.Attribute o m apos) (e :: es) [] pos) X.env = (do
      let ov ← eval o X.env
      standAt apos.atName
      let (f, first) ← holding [ov] (getMethod ov m pl)
      callWith pos f first (backTo pos (starEach (e :: es) X.env)) (backToKw pos (keywordEach [] X.env))))
    (hl : as.len + 1 = n) : PE X (.Call (.Attribute o m apos) (e :: es) [] pos) (eE X Z W (.mc a C m key as)) :=
  pe_imp (pe_methE (E := WE W) ho c hm F hr hb (fun σ => L2N.passAt tk σ) ha hst hpl ht) fun σ H Q ⟨w, s, hw', rm, rs, p⟩ => by
    subst hw'
    rw [ev] at p
    refine ⟨w, s, rfl, rm, rs, p.split fun d w1 v rm1 fr1 rv p1 => ?_⟩
    cases hi : insOf w1.m d with
    | none => rw [hi] at p1; exact p1.elim
    | some q =>
      rw [hi] at p1
      simp only at p1
      by_cases hcond : q.1 = C ∧ (q.2.lookup m).isNone
      · rw [if_pos hcond] at p1
        obtain ⟨hC, hno⟩ := hcond
        obtain ⟨j, rfl, hcell⟩ := insOf_some hi
        rw [hC] at hcell
        cases rv with
        | @ref q0 _ hM =>
          obtain ⟨dx, fs', h2, h3⟩ := rm1.ins hM hcell
          refine ⟨q0, dx, fs', rfl, h2, ?_, w1, s, rfl, rm1, rs.mono fr1.wk, ?_⟩
          · rcases RFs.look m h3 with ⟨h4, _⟩ | ⟨v, d, _, h5, _⟩
            · exact h4
            · rw [h5] at hno; cases hno
          · cases hr' : evs Z.G Z.cl as s w1.m with
            | err => rw [hr'] at p1; exact p1
            | exc x m => rw [hr'] at p1; exact p1
            | ok ds m =>
              rw [hr'] at p1
              intro w2 vs hm2 rm2 fr2 hv
              have p2 : Post X.K Z.cn X.mg (Rv X.K) Q (WE W σ) w1 (Z.cl key (.ref j :: ds) m) := p1
              rw [← hm2] at p2
              exact ⟨w2, .ref j :: ds, rfl, rm2, .cons ((Rv.ref hM).mono fr2.wk) hv, by rw [List.length_cons, hv.length, evs_len hr', hl], p2.later fr2⟩
      · rw [if_neg hcond] at p1
        exact p1.elim
theorem mk_core {C key : Str} {n : Nat} {σ : L2.St} {H : Hp} {Q : VK} (hl : as.len + 1 = n) (h : eE X Z W (.mk C key as) σ H Q) : tMakeE (Z.cn.ad C) (spC X.K Z.cn X.mg (Z.cl key) n) (WE W) (eA X Z W as) σ H Q := by
  obtain ⟨w, s, hw', rm, rs, p⟩ := h
  subst hw'
  rw [ev] at p
  refine ⟨w, s, rfl, rm, rs, ?_⟩
  cases hr' : evs Z.G Z.cl as s w.m with
  | err => rw [hr'] at p; exact p
  | exc x m => rw [hr'] at p; exact p
  | ok ds m =>
    rw [hr'] at p
    intro w1 vs hm1 rm1 fr1 hv x dx hx hdx hne
    have p2 : Post X.K Z.cn X.mg (Rv X.K) Q (WE W σ) w ((Z.cl key (.ref m.length :: ds) (m ++ [.ins C []])).bind fun r m' => match r with
      | .non => .ok (.ref m.length) m'
      | _ => .err) := p
    rw [← hm1] at p2
    have p3 := p2.later fr1
    have rmA : RM X.K Z.cn (w1.put dx (.own x)) := rm1.put hdx
    have frA : Fr w1 (w1.put dx (.own x)) := Fr.put rm1 hdx
    have hxA : (w1.put dx (.own x)).H x = none := by
      show upd w1.H dx (.own x) x = none
      rw [upd_ne (fun z => hne z.symm)]
      exact hx
    have rmB : RM X.K Z.cn ((w1.put dx (.own x)).alloc x (.ins (Z.cn.ad C) dx []) (.ins C [])) := rmA.alloc hxA ⟨dx, [], upd_same, .nil⟩
    have frB : Fr w1 ((w1.put dx (.own x)).alloc x (.ins (Z.cn.ad C) dx []) (.ins C [])) := frA.trans (Fr.alloc rmA hxA)
    have hMx : ((w1.put dx (.own x)).alloc x (.ins (Z.cn.ad C) dx []) (.ins C [])).M[w1.m.length]? = some x := by
      show (w1.M ++ [x])[w1.m.length]? = some x
      rw [← rm1.len, List.getElem?_append_right (Nat.le_refl _)]
      simp
    refine ⟨(w1.put dx (.own x)).alloc x (.ins (Z.cn.ad C) dx []) (.ins C []), .ref w1.m.length :: ds, rfl, rmB, .cons (.ref hMx) (hv.mono frB.wk), by rw [List.length_cons, hv.length, evs_len hr', hl], ?_⟩
    show Post X.K Z.cn X.mg (Rv X.K) (fun v H2 => v = .non ∧ Q (.ref x) H2) (WE W σ) _ (Z.cl key (.ref w1.m.length :: ds) (w1.m ++ [.ins C []]))
    cases hcl : Z.cl key (.ref w1.m.length :: ds) (w1.m ++ [.ins C []]) with
    | err => rw [hcl] at p3; exact p3
    | exc y m' =>
      rw [hcl] at p3
      have p3 : Post X.K Z.cn X.mg (Rv X.K) Q (WE W σ) w1 (.exc y m') := p3
      exact fun w' cls d hm rm' fr hc hf => p3 w' cls d hm rm' (frB.trans fr) hc hf
    | ok d m' =>
      rw [hcl] at p3
      cases d with
      | non =>
        have p3 : Post X.K Z.cn X.mg (Rv X.K) Q (WE W σ) w1 (.ok (.ref w1.m.length) m') := p3
        intro w' b hm rm' fr hr
        cases hr
        exact ⟨rfl, p3 w' (.ref x) hm rm' (frB.trans fr) ((Rv.ref hMx).mono fr.wk)⟩
      | _ => exact p3.elim
/-- C(e, ..) -/
theorem se_mk {C key x : Str} {p : Pos} {ad : Addr} {fd : FuncData} {ps : List Str} {n lv : Nat} (M : Mk X.K (Z.cn.ad C) ad) (F : FnOk X.prog X.w X.K X.mg X.base (L2N.CX X.prog X.w) lv ad fd ps (spC X.K Z.cn X.mg (Z.cl key) n)) (hr : Room (lv + 1) X.A) (hg : Gl X x) (hm : X.mg x = some (.ref (Z.cn.ad C)))
    (hb : Binds X.K fd ps []) (tk : L2N.Takes X W) (ha : PA X (e :: es) (eA X Z W as)) (hdb : (x == ("__debug__" : Str)) = false) (hst : starEach (e :: es) X.env = (false, eval e X.env) :: starEach es X.env) (hpl : (backTo pos (starEach es X.env)).any (·.1) = false)
    (hl : as.len + 1 = n) : PE X (.Call (.Name x p) (e :: es) [] pos) (eE X Z W (.mk C key as)) := pe_imp (pe_makeE (E := WE W) M F hr hg hm hb (fun σ => L2N.passAt tk σ) ha hdb hst hpl) fun _ _ _ h => mk_core hl h
theorem se_mk0 {C key x : Str} {p : Pos} {ad : Addr} {fd : FuncData} {ps : List Str} {lv : Nat} (M : Mk X.K (Z.cn.ad C) ad) (F : FnOk X.prog X.w X.K X.mg X.base (L2N.CX X.prog X.w) lv ad fd ps (spC X.K Z.cn X.mg (Z.cl key) 1)) (hr : Room (lv + 1) X.A) (hg : Gl X x) (hm : X.mg x = some (.ref (Z.cn.ad C)))
    (hb : Binds X.K fd ps []) (tk : L2N.Takes X W) (hdb : (x == ("__debug__" : Str)) = false) : PE X (.Call (.Name x p) [] [] pos) (eE X Z W (.mk C key .nil)) :=
  pe_imp (pe_makeE0 (E := WE W) M F hr hg hm hb (fun σ => L2N.passAt tk σ) hdb) fun σ H Q h => by
    obtain ⟨w, s, hw', rm, rs, p⟩ := mk_core (as := .nil) (n := 1) rfl h
    subst hw'
    rw [evs] at p
    exact p w [] rfl rm (Fr.refl w) .nil
end
end LR

set_option Elab.async false
set_option linter.all false
set_option maxRecDepth 100000
set_option maxHeartbeats 4000000
/-! operators of own classes (instances with a dict): len, in, not in, - , [..], truth, ==, != ; t.index(int) -/
namespace LRK
open PySem PySem.Spec PyProof.Rows L2
section
variable {X : Cx} {CX : CXT} {C g : Addr} {n : Nat} {sp : Sp} {E : XK}
/-- the instance as the kit's rules of own operators want it -/
theorem ins_at {pins : List (Addr × Obj)} {σ : L2.St} {H : Hp} {s : Shared} {a dx : Addr} {fs : List (Str × V)} (I : Inv X pins σ H s) (h : H a = some (.ins C dx fs)) :
    ∃ ox od, PySem.W.InstAt s.heap a ox C od := by
  obtain ⟨mA, J, _⟩ := ins_get I.hok h
  obtain ⟨od, J, _⟩ := J.look
  exact ⟨_, _, J⟩
/-- len(x) -/
def rLenI (C : Addr) (sp : Sp) (E : XK) : List V → Hp → VK → Prop := fun xs H Q => ∃ a dx fs, xs = [V.ref a] ∧ H a = some (.ins C dx fs) ∧ sp [.ref a] H (fun z H' => ∃ i, z = .int i ∧ 0 ≤ i ∧ i < 2 ^ 63 ∧ Q z H') E
theorem call_lenI (hs : PySem.W.findIn X.K (.ref C) "__len__" = some (some (.ref g))) (hf : PySem.W.isFn X.K (.ref g) = true) (F : FnR X.prog X.w X.K X.mg X.base CX n g sp) (hr : Room (n + 1) X.A) (hx : Passes CX X E) : CallR X (.builtin "len") (rLenI C sp E) := by
  intro pins s σ H xs us Q I r h
  obtain ⟨a, dx, fs, rfl, ha, q⟩ := h
  obtain ⟨u, rfl, ru⟩ := r.one
  cases (show u = Value.ref a from ru)
  obtain ⟨ox, od, J⟩ := ins_at I ha
  obtain ⟨m, hF⟩ := I.fr
  refine PySem.W.len_K hF I.ok.mod.kin J hs hf (wpAny_mono (wpAny_call (SlX.run_at (us := [.ref a]) (ws := [.ref a]) F hr.in1 I.env0.in1 hx I (.cons rfl .nil) q)) (fun w s' z => ?_) fun _ _ x => x)
  obtain ⟨z', H', I', rz, i, ei, h0, h1, qz⟩ := z
  subst ei
  obtain ⟨t, e⟩ := (show ∃ t, w = Value.int i t from rz)
  cases e
  exact ⟨⟨h0, h1⟩, .int i, H', I'.tok _, ⟨_, rfl⟩, qz⟩
/-- x in y, y an instance -/
def rInI (C : Addr) (sp : Sp) (E : XK) (k : Bool → Bool) : R2 := fun x y H Q => ∃ a dx fs, y = V.ref a ∧ H a = some (.ins C dx fs) ∧ sp [.ref a, x] H (fun z H' => ∃ b, z = .bl b ∧ Q (.bl (k b)) H') E
theorem op_inI (hs : PySem.W.findIn X.K (.ref C) "__contains__" = some (some (.ref g))) (hf : PySem.W.isFn X.K (.ref g) = true) (F : FnR X.prog X.w X.K X.mg X.base CX n g sp) (hr : Room n X.A) (hx : Passes CX X E) : OpR X (compareOp .In) (rInI C sp E id) := by
  intro pins s σ H x y v u Q I rx ry h
  obtain ⟨a, dx, fs, rfl, ha, q⟩ := h
  cases (show u = Value.ref a from ry)
  obtain ⟨ox, od, J⟩ := ins_at I ha
  obtain ⟨m, hF⟩ := I.fr
  refine PySem.W.in_K hF I.ok.mod.kin J hs hf (wpAny_mono (wpAny_call (run_fnR (us := [.ref a, v]) (vs := [.ref a, x]) F hr hx I (.cons rfl (.cons rx .nil)) q)) (fun w s' z => ?_) fun _ _ x => x)
  obtain ⟨z', H', I', rz, b, eb, qz⟩ := z
  subst eb
  cases (show w = Value.bool b from rz)
  exact wpAny_pure ⟨.bl b, H', I', rfl, qz⟩
theorem op_notInI (hs : PySem.W.findIn X.K (.ref C) "__contains__" = some (some (.ref g))) (hf : PySem.W.isFn X.K (.ref g) = true) (F : FnR X.prog X.w X.K X.mg X.base CX n g sp) (hr : Room n X.A) (hx : Passes CX X E) : OpR X (compareOp .NotIn) (rInI C sp E not) := by
  intro pins s σ H x y v u Q I rx ry h
  obtain ⟨a, dx, fs, rfl, ha, q⟩ := h
  cases (show u = Value.ref a from ry)
  obtain ⟨ox, od, J⟩ := ins_at I ha
  obtain ⟨m, hF⟩ := I.fr
  refine PySem.W.notIn_K hF I.ok.mod.kin J hs hf (wpAny_mono (wpAny_call (run_fnR (us := [.ref a, v]) (vs := [.ref a, x]) F hr hx I (.cons rfl (.cons rx .nil)) q)) (fun w s' z => ?_) fun _ _ x => x)
  obtain ⟨z', H', I', rz, b, eb, qz⟩ := z
  subst eb
  cases (show w = Value.bool b from rz)
  exact wpAny_pure ⟨.bl (!b), H', I', rfl, qz⟩
/-- -x -/
def rNegI (C : Addr) (sp : Sp) (E : XK) : V → Hp → VK → Prop := fun x H Q => ∃ a dx fs, x = V.ref a ∧ H a = some (.ins C dx fs) ∧ sp [.ref a] H Q E
theorem un_negI (hs : PySem.W.findIn X.K (.ref C) "__neg__" = some (some (.ref g))) (hf : PySem.W.isFn X.K (.ref g) = true) (F : FnR X.prog X.w X.K X.mg X.base CX n g sp) (hr : Room n X.A) (hx : Passes CX X E) : UnR X (unaryOp .USub) (rNegI C sp E) := by
  intro pins s σ H x v Q I rx h
  obtain ⟨a, dx, fs, rfl, ha, q⟩ := h
  cases (show v = Value.ref a from rx)
  obtain ⟨ox, od, J⟩ := ins_at I ha
  obtain ⟨m, hF⟩ := I.fr
  exact PySem.W.ksp_neg hF I.ok.mod.kin J hs hf (wpAny_call (run_fnR (us := [.ref a]) (vs := [.ref a]) F hr hx I (.cons rfl .nil) q))
/-- the truth of x by its own __bool__ -/
def rBoolI (C : Addr) (sp : Sp) (E : XK) : V → Hp → (Bool → Hp → Prop) → Prop := fun x H Q => ∃ a dx fs, x = V.ref a ∧ H a = some (.ins C dx fs) ∧ sp [.ref a] H (fun z H' => ∃ b, z = .bl b ∧ Q b H') E
theorem tru_boolI (hs : PySem.W.findIn X.K (.ref C) "__bool__" = some (some (.ref g))) (hf : PySem.W.isFn X.K (.ref g) = true) (F : FnR X.prog X.w X.K X.mg X.base CX n g sp) (hr : Room n X.A) (hx : Passes CX X E) : TruR X (rBoolI C sp E) := by
  intro pins s σ H x v Q I rx h
  obtain ⟨a, dx, fs, rfl, ha, q⟩ := h
  cases (show v = Value.ref a from rx)
  obtain ⟨ox, od, J⟩ := ins_at I ha
  obtain ⟨m, hF⟩ := I.fr
  refine PySem.W.truthy_K hF I.ok.mod.kin J hs hf (wpAny_mono (wpAny_call (run_fnR (us := [.ref a]) (vs := [.ref a]) F hr hx I (.cons rfl .nil) q)) (fun w s' z => ?_) fun _ _ x => x)
  obtain ⟨z', H', I', rz, b, eb, qz⟩ := z
  subst eb
  cases (show w = Value.bool b from rz)
  exact ⟨H', I', qz⟩
/-- the class of y, as the own == asks it -/
def Kind (K : PySem.W.Frag) (C : Addr) (y : V) (H : Hp) : Prop :=
  (∃ b dy gs, y = V.ref b ∧ H b = some (.ins C dy gs)) ∨ ((∃ p xs, y = V.ref p ∧ SqT K H p xs) ∧ PySem.W.notFirst K C (.type "tuple") = true) ∨ ((∃ i, y = V.int i) ∧ PySem.W.notFirst K C (.type "int") = true)
theorem looks_ref {M : Model} {s : Shared} {a : Addr} {o : Obj} (h : s.heap.get? a = some o) : PySem.W.Looks M s.heap (typeOf (.ref a)) o.cls :=
  fun A Q E s' k q => wpAny_typeOf_ref (k _ _ h) q
theorem kind_looks {pins : List (Addr × Obj)} {σ : L2.St} {H : Hp} {s : Shared} {y : V} {u : Value} (I : Inv X pins σ H s) (ry : RelV y u) (h : Kind X.K C y H) :
    ∃ tb, PySem.W.Looks (model X.prog X.w) s.heap (typeOf u) tb ∧ PySem.W.notFirst X.K C tb = true := by
  rcases h with ⟨b, dy, gs, rfl, hb⟩ | ⟨⟨p, xs, rfl, hq⟩, hn⟩ | ⟨⟨i, rfl⟩, hn⟩
  · cases (show u = Value.ref b from ry)
    obtain ⟨ox, od, J⟩ := ins_at I hb
    exact ⟨.ref C, J.type, by simp [PySem.W.notFirst]⟩
  · cases (show u = Value.ref p from ry)
    obtain ⟨its, r, pl, hz⟩ := I.tuple hq
    obtain ⟨⟨cls, dd, dt, sl⟩, ho, hc, n, hd⟩ := pl
    simp only at hc hd
    subst hc
    exact ⟨.type "tuple", looks_ref ho, hn⟩
  · obtain ⟨t, rfl⟩ := (show ∃ t, u = Value.int i t from ry)
    exact ⟨.type "int", fun A Q E s' k q => wpAny_typeOf (typeIs_int _ _ _) q, hn⟩
/-- x == y or x != y by the own def, y an instance of the same class, a tuple or an int -/
def rCmpI (K : PySem.W.Frag) (C : Addr) (sp : Sp) (E : XK) : R2 := fun x y H Q => ∃ a dx fs, x = V.ref a ∧ H a = some (.ins C dx fs) ∧ Kind K C y H ∧ sp [x, y] H Q E
theorem op_cmpI {op : CmpOp} (hop : ∀ a b, compareOp op a b = richCompare op a b) (hs : PySem.W.findIn X.K (.ref C) (cmpInfo op).2.1 = some (some (.ref g))) (hf : PySem.W.isFn X.K (.ref g) = true) (F : FnR X.prog X.w X.K X.mg X.base CX n g sp)
    (hr : Room n X.A) (hx : Passes CX X E) : OpR X (compareOp op) (rCmpI X.K C sp E) := by
  intro pins s σ H x y v u Q I rx ry h
  obtain ⟨a, dx, fs, rfl, ha, hk, q⟩ := h
  cases (show v = Value.ref a from rx)
  obtain ⟨ox, od, J⟩ := ins_at I ha
  obtain ⟨tb, hb, hn⟩ := kind_looks I ry hk
  obtain ⟨m, hF⟩ := I.fr
  rw [hop]
  refine PySem.W.cmp_K (op := op) (tb := tb) hr.units0 hF I.ok.mod.kin J hb hn hs hf ?_
  refine wpAny_mono (wpAny_call (run_fnR (us := [.ref a, u]) (vs := [.ref a, y]) F hr hx I (.cons rfl (.cons ry .nil)) q)) (fun w s' z => ?_) fun _ _ x => x
  obtain ⟨z', H', I', rz, qz⟩ := z
  exact SlX.cmpback rz ⟨z', H', I', rz, qz⟩
/-- x[y], x an instance: its own __getitem__ -/
def tGetI (C : Addr) (sp : Sp) (E : XK) (ta tb : TE) : TE := fun σ H Q => ta σ H fun x H1 => tb σ H1 fun y H2 => ∃ a dx fs, x = V.ref a ∧ H2 a = some (.ins C dx fs) ∧ sp [x, y] H2 Q E
theorem pe_getI {a b : Expr} {ta tb : TE} {pos : Pos} (hs : PySem.W.findIn X.K (.ref C) "__getitem__" = some (some (.ref g))) (hf : PySem.W.fnIn X.K g = true) (hfn : PySem.W.isFn X.K (.ref g) = true) (F : FnR X.prog X.w X.K X.mg X.base CX n g sp)
    (hr : Room (n + 1) X.A) (hx : Passes CX X E) (ha : PE X a ta) (hb : PE X b tb)
    (hsl : ∀ v i, subscripted b true v i = runValue (.builtin "lifetime.subscript" ⟨[v, i], []⟩)) : PE X (.Subscript a b pos) (tGetI C sp E ta tb) := by
  refine ⟨fun pins s σ H Q I h => ?_⟩
  refine Subscript_ (binT ha hb I (R := fun x y H2 => ∃ a dx fs, x = V.ref a ∧ H2 a = some (.ins C dx fs) ∧ sp [x, y] H2 Q E) h fun v u s2 x y H2 I2 rx ry q => ?_)
  obtain ⟨p, dx, fs, rfl, hp, q⟩ := q
  cases (show v = Value.ref p from rx)
  obtain ⟨ox, od, J⟩ := ins_at I2 hp
  obtain ⟨m, hF⟩ := I2.fr
  refine PySem.W.sub_K hF I2.ok.mod.kin J hs hf hfn (wpAny_mono (wpAny_call (SlX.run_at (us := [.ref p, u]) (ws := [.ref p, y]) F hr.in1 I2.env0.in1 hx I2 (.cons rfl (.cons ry .nil)) q)) (fun w s' z => z) fun _ _ x => x) (hsl _ _)
/-- t.index(i), the first place -/
theorem mt_tup_indexI : MtR X "tuple.index" (fun x xs H Q => ∃ p, ∃ ys : List Int, ∃ z j, x = .ref p ∧ xs = [.int z] ∧ SqT X.K H p (ys.map V.int) ∧ ys[j]? = some z ∧ (∀ m, m < j → ys[m]? ≠ some z) ∧ Q (.int (j : Nat)) H) := by
  intro pins s σ H x xs v us Q I rx rs h
  obtain ⟨p, ys, z, j, rfl, rfl, hq, hy, hno, q⟩ := h
  cases rx
  obtain ⟨u, rfl, t, rfl⟩ := vals1 rs
  obtain ⟨its, r, pl, hz⟩ := I.tuple hq
  obtain ⟨⟨cls, dd, dt, sl⟩, ho, hc, n, hd⟩ := pl
  simp only at hc hd
  subst hc
  subst hd
  have hl : its.toArray.size = ys.length := by rw [List.size_toArray, ← r.length, List.length_map]
  have hj : j < its.toArray.size := by rw [hl]; exact (List.getElem?_eq_some_iff.mp hy).1
  have at' : ∀ (m : Nat) (hm : m < its.toArray.size), ∃ y t', ys[m]? = some y ∧ its.toArray[m] = Value.int y t' := fun m hm => by
    have hm' : m < ys.length := by rw [← hl]; exact hm
    obtain ⟨w, hw, t', hw'⟩ := r.get (i := m) (x := .int ys[m]) (by simp [hm'])
    refine ⟨ys[m], t', List.getElem?_eq_getElem hm', ?_⟩
    have e := (List.getElem?_eq_some_iff.mp hw).2
    rw [← hw', ← e]
    simp
  have fl : (ys.map V.int).all flatV = true := by
    rw [List.all_eq_true]
    intro w hw
    obtain ⟨y, _, rfl⟩ := List.mem_map.mp hw
    rfl
  refine call_meets PySem.F.slot_tuple_index ⟨_, ho, rfl⟩ PySem.F.entry_tuple_index (PySem.F.args_tuple_index_2 _ _) (TI.tuple_indexAt p its.toArray n dd sl (.int z t) (eqU (.int z)) j hj ?_ ?_)
    ⟨ho, fun w hw => mem_eqAt (x := .int z) ⟨t, rfl⟩ rfl r fl w (by simpa using hw), ⟨.int (j : Nat), H, I.tok _, ⟨_, rfl⟩, q⟩⟩
  · obtain ⟨y, t', h1, h2⟩ := at' j hj
    rw [hy] at h1
    cases h1
    rw [h2]
    show (z == z) = true
    exact beq_self_eq_true z
  · intro m hm hmj
    obtain ⟨y, t', h1, h2⟩ := at' m hm
    rw [h2]
    show (y == z) = false
    exact beq_eq_false_iff_ne.mpr fun e => hno m hmj (e ▸ h1)
end
end LRK

set_option Elab.async false
set_option linter.all false
set_option maxRecDepth 100000
set_option maxHeartbeats 4000000
/-! the rules of LrKA with exceptions wished for at the caller's slots (as LrDG has methods) -/
namespace LRK
open PySem PySem.Spec PyProof.Rows L2
section
variable {X : Cx} {CX : CXT} {C g : Addr} {n : Nat} {sp : Sp} {E : XK} {pins : List (Addr × Obj)} {σ : L2.St} {H : Hp} {s : Shared} {Q : VK} {a dx : Addr} {fs : List (Str × V)}
theorem run_atS {A : Around} {us : List Value} {ws : List V} (F : FnR X.prog X.w X.K X.mg X.base CX n g sp) (hr : Room n A) (e0 : Env0 X.prog X.w X.K X.mg X.base A X.stack s H) (hx : PassesAt CX X σ E) (I : Inv X pins σ H s) (r : Vals ws us) (h : sp ws H Q E) :
    codeAny (model X.prog X.w) A (.call (.ref g) ⟨us, []⟩) (fun r s' => match r with | .ok (.ret v) => EP X pins σ Q v s' | .ok _ => False | .error e => X.xe e s') s := by
  refine codeAny_mono (F A X.stack s H us ws Q E hr e0 r h) fun r s' hq => ?_
  cases r with
  | error e => exact hx pins H s e s' I hq
  | ok fl =>
    cases fl with
    | ret u => exact I.after hq
    | next => exact False.elim hq
    | brk => exact False.elim hq
    | cont => exact False.elim hq
theorem len_S (hs : PySem.W.findIn X.K (.ref C) "__len__" = some (some (.ref g))) (hf : PySem.W.isFn X.K (.ref g) = true) (F : FnR X.prog X.w X.K X.mg X.base CX n g sp) (hr : Room (n + 1) X.A) (hx : PassesAt CX X σ E)
    (I : Inv X pins σ H s) (ha : H a = some (.ins C dx fs)) (q : sp [.ref a] H (fun z H' => ∃ i, z = .int i ∧ 0 ≤ i ∧ i < 2 ^ 63 ∧ Q z H') E) :
    wpAny (model X.prog X.w) X.A (call (.builtin "len") [.ref a]) (EP X pins σ Q) X.xe s := by
  obtain ⟨ox, od, J⟩ := ins_at I ha
  obtain ⟨m, hF⟩ := I.fr
  refine PySem.W.len_K hF I.ok.mod.kin J hs hf (wpAny_mono (wpAny_call (run_atS (us := [.ref a]) (ws := [.ref a]) F hr.in1 I.env0.in1 hx I (.cons rfl .nil) q)) (fun w s' z => ?_) fun _ _ x => x)
  obtain ⟨z', H', I', rz, i, ei, h0, h1, qz⟩ := z
  subst ei
  obtain ⟨t, e⟩ := (show ∃ t, w = Value.int i t from rz)
  cases e
  exact ⟨⟨h0, h1⟩, .int i, H', I'.tok _, ⟨_, rfl⟩, qz⟩
theorem in_S {x : V} {v : Value} (hs : PySem.W.findIn X.K (.ref C) "__contains__" = some (some (.ref g))) (hf : PySem.W.isFn X.K (.ref g) = true) (F : FnR X.prog X.w X.K X.mg X.base CX n g sp) (hr : Room n X.A) (hx : PassesAt CX X σ E)
    (I : Inv X pins σ H s) (ha : H a = some (.ins C dx fs)) (rx : RelV x v) (q : sp [.ref a, x] H (fun z H' => ∃ b, z = .bl b ∧ Q z H') E) :
    wpAny (model X.prog X.w) X.A (compareOp .In v (.ref a)) (EP X pins σ Q) X.xe s := by
  obtain ⟨ox, od, J⟩ := ins_at I ha
  obtain ⟨m, hF⟩ := I.fr
  refine PySem.W.in_K hF I.ok.mod.kin J hs hf (wpAny_mono (wpAny_call (run_atS (us := [.ref a, v]) (ws := [.ref a, x]) F hr I.env0 hx I (.cons rfl (.cons rx .nil)) q)) (fun w s' z => ?_) fun _ _ x => x)
  obtain ⟨z', H', I', rz, b, eb, qz⟩ := z
  subst eb
  cases (show w = Value.bool b from rz)
  exact wpAny_pure ⟨.bl b, H', I', rfl, qz⟩
theorem neg_S (hs : PySem.W.findIn X.K (.ref C) "__neg__" = some (some (.ref g))) (hf : PySem.W.isFn X.K (.ref g) = true) (F : FnR X.prog X.w X.K X.mg X.base CX n g sp) (hr : Room n X.A) (hx : PassesAt CX X σ E)
    (I : Inv X pins σ H s) (ha : H a = some (.ins C dx fs)) (q : sp [.ref a] H Q E) : wpAny (model X.prog X.w) X.A (unaryOp .USub (.ref a)) (EP X pins σ Q) X.xe s := by
  obtain ⟨ox, od, J⟩ := ins_at I ha
  obtain ⟨m, hF⟩ := I.fr
  exact PySem.W.ksp_neg hF I.ok.mod.kin J hs hf (wpAny_call (run_atS (us := [.ref a]) (ws := [.ref a]) F hr I.env0 hx I (.cons rfl .nil) q))
theorem truth_S {Q : Bool → Hp → Prop} (hs : PySem.W.findIn X.K (.ref C) "__bool__" = some (some (.ref g))) (hf : PySem.W.isFn X.K (.ref g) = true) (F : FnR X.prog X.w X.K X.mg X.base CX n g sp) (hr : Room n X.A) (hx : PassesAt CX X σ E)
    (I : Inv X pins σ H s) (ha : H a = some (.ins C dx fs)) (q : sp [.ref a] H (fun z H' => ∃ b, z = .bl b ∧ Q b H') E) : wpAny (model X.prog X.w) X.A (truthy (.ref a)) (TP X pins σ Q) X.xe s := by
  obtain ⟨ox, od, J⟩ := ins_at I ha
  obtain ⟨m, hF⟩ := I.fr
  refine PySem.W.truthy_K hF I.ok.mod.kin J hs hf (wpAny_mono (wpAny_call (run_atS (us := [.ref a]) (ws := [.ref a]) F hr I.env0 hx I (.cons rfl .nil) q)) (fun w s' z => ?_) fun _ _ x => x)
  obtain ⟨z', H', I', rz, b, eb, qz⟩ := z
  subst eb
  cases (show w = Value.bool b from rz)
  exact ⟨H', I', qz⟩
theorem cmp_S {op : CmpOp} {y : V} {u : Value} (hop : ∀ a b, compareOp op a b = richCompare op a b) (hs : PySem.W.findIn X.K (.ref C) (cmpInfo op).2.1 = some (some (.ref g))) (hf : PySem.W.isFn X.K (.ref g) = true) (F : FnR X.prog X.w X.K X.mg X.base CX n g sp)
    (hr : Room n X.A) (hx : PassesAt CX X σ E) (I : Inv X pins σ H s) (ha : H a = some (.ins C dx fs)) (ry : RelV y u) (hk : Kind X.K C y H) (q : sp [.ref a, y] H Q E) :
    wpAny (model X.prog X.w) X.A (compareOp op (.ref a) u) (EP X pins σ Q) X.xe s := by
  obtain ⟨ox, od, J⟩ := ins_at I ha
  obtain ⟨tb, hb, hn⟩ := kind_looks I ry hk
  obtain ⟨m, hF⟩ := I.fr
  rw [hop]
  refine PySem.W.cmp_K (op := op) (tb := tb) hr.units0 hF I.ok.mod.kin J hb hn hs hf ?_
  refine wpAny_mono (wpAny_call (run_atS (us := [.ref a, u]) (ws := [.ref a, y]) F hr I.env0 hx I (.cons rfl (.cons ry .nil)) q)) (fun w s' z => ?_) fun _ _ x => x
  obtain ⟨z', H', I', rz, qz⟩ := z
  exact SlX.cmpback rz ⟨z', H', I', rz, qz⟩
theorem get_S {value slice : Expr} {y : V} {u : Value} (hs : PySem.W.findIn X.K (.ref C) "__getitem__" = some (some (.ref g))) (hf : PySem.W.fnIn X.K g = true) (hfn : PySem.W.isFn X.K (.ref g) = true) (F : FnR X.prog X.w X.K X.mg X.base CX n g sp)
    (hr : Room (n + 1) X.A) (hx : PassesAt CX X σ E) (I : Inv X pins σ H s) (ha : H a = some (.ins C dx fs)) (ry : RelV y u) (q : sp [.ref a, y] H Q E)
    (hsl : subscripted slice true (.ref a) u = runValue (.builtin "lifetime.subscript" ⟨[.ref a, u], []⟩)) : wpAny (model X.prog X.w) X.A (subscriptTail value slice (.ref a) u) (EP X pins σ Q) X.xe s := by
  obtain ⟨ox, od, J⟩ := ins_at I ha
  obtain ⟨m, hF⟩ := I.fr
  exact PySem.W.sub_K hF I.ok.mod.kin J hs hf hfn (wpAny_call (run_atS (us := [.ref a, u]) (ws := [.ref a, y]) F hr.in1 I.env0.in1 hx I (.cons rfl (.cons ry .nil)) q)) hsl
end
end LRK

set_option Elab.async false
set_option linter.all false
set_option maxRecDepth 100000
set_option maxHeartbeats 4000000
/-! x != y where the class has __eq__ alone -/
namespace LRK
open PySem PySem.W PySem.Calls PyProof.Rows Builtin
section
variable {prog : Program} {w : World} {A : Around} {E : Value → Shared → Prop} {s : Shared} {K : Frag} {x C L f : Addr} {h₀ : Heap} {m : Str → Option Value} {ox : Obj} {od : Option Obj} {b tb : Value}
theorem ifBound_ne {Q : Option Value → Shared → Prop} (X : K.In s.heap) (I : InstAt s.heap x ox C od) (hs : findIn K (.ref C) "__ne__" = some (some (.builtin "object.__ne__")))
    (h : wpAny (model prog w) A (call (.builtin "object.__ne__") [.ref x, b]) (fun v => Q (some v)) E s) : wpAny (model prog w) A (callSpecialIfBound? (.ref x) "__ne__" [b]) Q E s := by
  simp only [callSpecialIfBound?, bindSpecialIfBound?]
  refine wpAny_holding (wpAny_bind (wpAny_bind (wpAny_bind (I.type.here ((looks_findIn X hs).here ?_)))))
  refine wpAny_bind (wpAny_askSetting (wpAny_ite ?_))
  have hb : bindSpecial (.builtin "object.__ne__") (.ref x) = pure (.builtin "object.__ne__", [.ref x]) := F.cmp_object.ne.bind _
  have fin : wpAny (model prog w) A (call (.builtin "object.__ne__") ([.ref x] ++ [b]) >>= fun v => pure (some v)) Q E s := wpAny_bind (wpAny_mono h (fun v s' h' => wpAny_pure h') fun _ _ h' => h')
  rw [hb]
  split
  · exact wpAny_bind (wpAny_pure (wpAny_pure fin))
  · exact wpAny_tryCatch (wpAny_bind (wpAny_pure (wpAny_pure fin)))
/-- what the own == gives back, turned over -/
def NotBack (Q : Value → Shared → Prop) (v : Value) (s' : Shared) : Prop := ∃ c, v = .bool c ∧ Q (.bool (!c)) s'
theorem call_ne {Q : Value → Shared → Prop} (hu : A.in1.units < cLine) (X : K.In s.heap) (I : InstAt s.heap x ox C od) (hm : subIn K (.ref C) (.type "object") = some true) (hs : findIn K (.ref C) "__eq__" = some (some (.ref f))) (hf : isFn K (.ref f) = true)
    (h : wpAny (model prog w) A.in1 (call (.ref f) [.ref x, b]) (NotBack Q) E s) : wpAny (model prog w) A (call (.builtin "object.__ne__") [.ref x, b]) Q E s := by
  refine wpAny_call (codeAny_call_builtin F.cmp_object.ne.plain F.cmpEntry_ne ?_)
  refine check_slot F.cmpKind_ne F.cmpSplit_ne (I.type.andThen (looks_subIn X hm)) (F.cmpArgs_ne _ _) ?_
  unfold Builtin.«object.__ne__»
  refine wpAny_bind (m := slotArgs "__ne__" 1 ⟨[.ref x, b], []⟩) (wpAny_pure ?_)
  dsimp only
  refine wpAny_bind (wpAny_cRoomFor hu ?_)
  refine wpAny_bind (ifBound_K X I hs hf (wpAny_mono h (fun v s' hv => ?_) fun _ _ e => e))
  obtain ⟨c, rfl, hq⟩ := hv
  dsimp only
  exact wpAny_bind (wpAny_truthy_bool (wpAny_pure hq))
/-- x != b, the class has no __ne__ of its own -/
theorem ne_K {Q : Value → Shared → Prop} (hu : A.units < cLine) (hu2 : A.in1.units < cLine) (F : Fr h₀ L s.heap m) (X₀ : K.In h₀) (I : InstAt s.heap x ox C od) (hb : Looks (model prog w) s.heap (typeOf b) tb) (hn : notFirst K C tb = true)
    (hne : findIn K (.ref C) "__ne__" = some (some (.builtin "object.__ne__"))) (hm : subIn K (.ref C) (.type "object") = some true) (hs : findIn K (.ref C) "__eq__" = some (some (.ref f))) (hf : isFn K (.ref f) = true)
    (h : wpAny (model prog w) A.in1 (call (.ref f) [.ref x, b]) (NotBack Q) E s) : wpAny (model prog w) A (richCompare .NotEq (.ref x) b) Q E s := by
  have X := X₀.keeps F.keep
  have one : wpAny (model prog w) A (tryCompare (.ref x) (cmpInfo .NotEq).2.1 b) (fun r s' => ∃ v, r = some v ∧ Q v s') E s := by
    unfold tryCompare
    refine wpAny_bind (ifBound_ne X I hne (call_ne hu2 X I hm hs hf (wpAny_mono h (fun v s' hv => ?_) fun _ _ e => e)))
    obtain ⟨c, rfl, hq⟩ := hv
    exact ⟨c, rfl, wpAny_pure ⟨_, rfl, hq⟩⟩
  unfold richCompare
  simp only [oneThing_ref]
  refine wpAny_holding (wpAny_bind (wpAny_cRoomFor hu ?_))
  refine wpAny_bind (I.type.here (wpAny_bind (hb.here ?_)))
  split
  · rename_i q
    have e : subIn K tb (.ref C) = some false := by
      rcases Bool.or_eq_true_iff.mp hn with e | e
      · rw [beq_iff_eq.mp e] at q; simp at q
      · exact beq_iff_eq.mp e
    refine wpAny_bind ((looks_subIn X e).here ?_)
    simp only [Bool.false_eq_true, if_false]
    refine wpAny_bind (wpAny_mono one (fun r s' z => ?_) fun _ _ e => e)
    obtain ⟨v, rfl, hq⟩ := z
    exact wpAny_pure hq
  · refine wpAny_bind (wpAny_pure ?_)
    simp only [Bool.false_eq_true, if_false]
    refine wpAny_bind (wpAny_mono one (fun r s' z => ?_) fun _ _ e => e)
    obtain ⟨v, rfl, hq⟩ := z
    exact wpAny_pure hq
end
end LRK
namespace LRK
open PySem PySem.Spec PyProof.Rows L2
section
variable {X : Cx} {CX : CXT} {C g : Addr} {n : Nat} {sp : Sp} {E : XK} {pins : List (Addr × Obj)} {σ : L2.St} {H : Hp} {s : Shared} {Q : VK} {a dx : Addr} {fs : List (Str × V)}
theorem ne_S {y : V} {u : Value} (hne : PySem.W.findIn X.K (.ref C) "__ne__" = some (some (.builtin "object.__ne__"))) (hm : PySem.W.subIn X.K (.ref C) (.type "object") = some true) (hs : PySem.W.findIn X.K (.ref C) "__eq__" = some (some (.ref g))) (hf : PySem.W.isFn X.K (.ref g) = true) (F : FnR X.prog X.w X.K X.mg X.base CX n g sp)
    (hr : Room (n + 1) X.A) (hx : PassesAt CX X σ E) (I : Inv X pins σ H s) (ha : H a = some (.ins C dx fs)) (ry : RelV y u) (hk : Kind X.K C y H) (q : sp [.ref a, y] H (fun z H' => ∃ b, z = .bl b ∧ Q (.bl (!b)) H') E) :
    wpAny (model X.prog X.w) X.A (compareOp .NotEq (.ref a) u) (EP X pins σ Q) X.xe s := by
  obtain ⟨ox, od, J⟩ := ins_at I ha
  obtain ⟨tb, hb, hn⟩ := kind_looks I ry hk
  obtain ⟨m, hF⟩ := I.fr
  show wpAny (model X.prog X.w) X.A (richCompare .NotEq (.ref a) u) (EP X pins σ Q) X.xe s
  refine ne_K hr.units0 hr.in1.units0 hF I.ok.mod.kin J hb hn hne hm hs hf ?_
  refine wpAny_mono (wpAny_call (run_atS (us := [.ref a, u]) (ws := [.ref a, y]) F hr.in1 I.env0.in1 hx I (.cons rfl (.cons ry .nil)) q)) (fun w s' z => ?_) fun _ _ x => x
  obtain ⟨z', H', I', rz, b, eb, qz⟩ := z
  subst eb
  cases (show w = Value.bool b from rz)
  exact ⟨b, rfl, .bl (!b), H', I', rfl, qz⟩
end
end LRK

set_option Elab.async false
set_option linter.all false
set_option maxRecDepth 100000
set_option maxHeartbeats 4000000
/-! bool(x), x an instance with its own __bool__ -/
namespace LRK
open PySem PySem.W PySem.Calls PyProof.Rows Builtin
section
variable {prog : Program} {w : World} {A : Around} {E : Value → Shared → Prop} {s : Shared} {K : PySem.W.Frag} {x C L f : Addr} {h₀ : Heap} {m : Str → Option Value} {ox : Obj} {od : Option Obj}
theorem bool_own {Q : Value → Shared → Prop} (F : Fr h₀ L s.heap m) (X₀ : K.In h₀) (I : PySem.W.InstAt s.heap x ox C od) (hs : PySem.W.findIn K (.ref C) "__bool__" = some (some (.ref f))) (hf : PySem.W.isFn K (.ref f) = true)
    (h : wpAny (model prog w) A.in1.in1 (call (.ref f) [.ref x]) (PySem.W.BoolBack fun b s' => Q (.bool b) s') E s) : wpAny (model prog w) A (call (.type "bool") [.ref x]) Q E s := by
  refine callType_codes (T := "bool") (Bi := Builtin.«object.__init__») (Q₁ := fun r s₁ => ∃ b, r = Value.bool b ∧ Q r s₁) PySem.F.called_bool (PySem.F.typeCall_bool_1 _) PySem.F.entry_object_init ?_ ?_
  · refine codeAny_of_tree ?_
    show wpAny _ A.in1.in1 (do checkBuiltinCall "bool.__new__" ⟨[.type "bool", .ref x], []⟩; again (.builtin "bool.__new__" ⟨[.type "bool", .ref x], []⟩)) _ _ s
    refine wpAny_bind (wpAny_of_eq (PySem.F.newCall_bool_1 _) (wpAny_pure ⟨plainId_quiet (by decide +kernel) _, codeAny_builtin PySem.F.entry_bool_new ?_⟩))
    rw [Around.under_plainId (by decide +kernel) _]
    unfold Builtin.«bool.__new__»
    refine wpAny_bind (wpAny_of_eq (a := true) (by kernel_rfl) ?_)
    refine PySem.W.KFB.if_not rfl ?_
    refine wpAny_bind (wpAny_of_eq (a := true) PySem.F.conv_sub_bool ?_)
    refine PySem.W.KFB.if_not rfl ?_
    refine wpAny_bind (m := someArgs "bool" 0 1 _) (wpAny_pure ?_)
    dsimp only
    refine wpAny_bind (PySem.W.truthy_K F X₀ I hs hf (wpAny_mono h (fun r s₁ hr => ?_) fun _ _ y => y))
    cases r <;> first | exact hr.elim | skip
    exact wpAny_pure ⟨_, rfl, hr⟩
  · rintro obj s₁ ⟨b, rfl, hq⟩
    exact ⟨rfl, PySem.F.args_object_init_2 _ _, object_init_meets PySem.F.called_bool.init.lookup PySem.F.called_bool.made (by decide) prog w A.in1 _ s₁ ⟨rfl, rfl, hq⟩⟩
end
end LRK
namespace LRK
open PySem PySem.Spec PyProof.Rows L2
section
variable {X : Cx} {CX : CXT} {C g : Addr} {n : Nat} {sp : Sp} {E : XK} {pins : List (Addr × Obj)} {σ : L2.St} {H : Hp} {s : Shared} {Q : VK} {a dx : Addr} {fs : List (Str × V)}
theorem bool_S (hs : PySem.W.findIn X.K (.ref C) "__bool__" = some (some (.ref g))) (hf : PySem.W.isFn X.K (.ref g) = true) (F : FnR X.prog X.w X.K X.mg X.base CX n g sp) (hr : Room (n + 2) X.A) (hx : PassesAt CX X σ E)
    (I : Inv X pins σ H s) (ha : H a = some (.ins C dx fs)) (q : sp [.ref a] H (fun z H' => ∃ b, z = .bl b ∧ Q z H') E) :
    wpAny (model X.prog X.w) X.A (call (.type "bool") [.ref a]) (EP X pins σ Q) X.xe s := by
  obtain ⟨ox, od, J⟩ := ins_at I ha
  obtain ⟨m, hF⟩ := I.fr
  have hr2 : Room n X.A.in1.in1 := (show Room (n + 1) X.A.in1 from Room.in1 hr).in1
  refine bool_own hF I.ok.mod.kin J hs hf (wpAny_mono (wpAny_call (run_atS (us := [.ref a]) (ws := [.ref a]) F hr2 I.env0.in1.in1 hx I (.cons rfl .nil) q)) (fun w s' z => ?_) fun _ _ x => x)
  obtain ⟨z', H', I', rz, b, eb, qz⟩ := z
  subst eb
  cases (show w = Value.bool b from rz)
  exact ⟨.bl b, H', I', rfl, qz⟩
end
end LRK

set_option Elab.async false
set_option linter.all false
set_option maxRecDepth 100000
set_option maxHeartbeats 4000000
namespace LR
open PySem PySem.Spec PyProof.Rows L2
/-! ### two places: in, ==, !=, [..] by own defs -/
def selI (k : K2) (x y : V) : V := match k with
  | .inn => y
  | .nin => y
  | _ => x
def selO (k : K2) (x y : V) : V := match k with
  | .inn => x
  | .nin => x
  | _ => y
def backV (k : K2) (Q : VK) (z : V) (H : Hp) : Prop := match k with
  | .inn => ∃ b, z = .bl b ∧ Q z H
  | .nin => ∃ b, z = .bl b ∧ Q (.bl (!b)) H
  | .ne => ∃ b, z = .bl b ∧ Q (.bl (!b)) H
  | _ => Q z H
def kindV (k : K2) (K : PySem.W.Frag) (C : Addr) (y : V) (H : Hp) : Prop := match k with
  | .eq => LRK.Kind K C y H
  | .ne => LRK.Kind K C y H
  | _ => True
def rO (K : PySem.W.Frag) (k : K2) (C : Addr) (sp : Sp) (E : L2.St → XK) (σ : L2.St) : R2 := fun x y H Q => ∃ a dx fs, selI k x y = .ref a ∧ H a = some (.ins C dx fs) ∧ kindV k K C (selO k x y) H ∧ sp [.ref a, selO k x y] H (backV k Q) (E σ)
/-- an operator whose exceptions are met at the slots -/
def OpRS (X : Cx) (op : Value → Value → Sem Value) (r : L2.St → R2) : Prop :=
  ∀ (pins : List (Addr × Obj)) (s : Shared) (σ : L2.St) (H : Hp) (x y : V) (v u : Value) (Q : VK), Inv X pins σ H s → RelV x v → RelV y u → r σ x y H Q → wpAny (model X.prog X.w) X.A (op v u) (EP X pins σ Q) X.xe s
def tOpS (r : L2.St → R2) (ta tb : TE) : TE := fun σ H Q => ta σ H fun x H1 => tb σ H1 fun y H2 => r σ x y H2 Q
section
variable {X : Cx} {CX : CXT} {k : Nat} {C g : Addr} {sp : Sp} {E : L2.St → XK} {pos : Pos} {e1 e2 : Expr} {ta tb : TE} {r : L2.St → R2}
theorem pe_cmpS {op : CmpOp} (ho : OpRS X (compareOp op) r) (ha : PE X e1 ta) (hb : PE X e2 tb) (hm : behindInMarks op e2 = false) : PE X (.Compare e1 [op] [e2] pos) (tOpS r ta tb) := by
  refine ⟨fun pins s σ H Q I h => ?_⟩
  exact wpAny_Compare1 (binT ha hb I (R := fun x y H2 => r σ x y H2 Q) h fun v u s2 x y H2 I2 rx ry q => ho pins s2 σ H2 x y v u Q I2 rx ry q) hm
theorem pt_cmpS {op : CmpOp} (ho : OpRS X (compareOp op) r) (ha : PE X e1 ta) (hb : PE X e2 tb) (hm : behindInMarks op e2 = false) : PT X (.Compare e1 [op] [e2] pos) (tTest (tOpS r ta tb)) := by
  refine ⟨fun pins s σ H Q I h => ?_⟩
  refine wpAny_isTrue_Compare1 (thn (ha.run pins s σ H _ I h) fun v s1 ⟨x, H1, I1, r1, q1⟩ => thn (hb.run pins s1 σ H1 _ I1 q1) fun u s2 ⟨y, H2, I2, r2, q2⟩ =>
    thn (ho pins s2 σ H2 x y v u _ I2 r1 r2 q2) fun c s3 ⟨z, H3, I3, r3, k, e, q3⟩ => ?_) hm
  subst e
  cases r3
  exact wpAny_truthy_bool ⟨H3, I3, q3⟩
theorem ors_in (hs : PySem.W.findIn X.K (.ref C) "__contains__" = some (some (.ref g))) (hf : PySem.W.isFn X.K (.ref g) = true) (F : FnR X.prog X.w X.K X.mg X.base CX k g sp) (hr : Room k X.A) (hx : ∀ σ, PassesAt CX X σ (E σ)) :
    OpRS X (compareOp .In) (rO X.K .inn C sp E) := by
  rintro pins s σ H x y v u Q I rx ry ⟨a, dx, fs, ey, ha, _, q⟩
  have ey : y = .ref a := ey
  subst ey
  cases (show u = Value.ref a from ry)
  exact LRK.in_S hs hf F hr (hx σ) I ha rx q
theorem ors_eq (hs : PySem.W.findIn X.K (.ref C) "__eq__" = some (some (.ref g))) (hf : PySem.W.isFn X.K (.ref g) = true) (F : FnR X.prog X.w X.K X.mg X.base CX k g sp) (hr : Room k X.A) (hx : ∀ σ, PassesAt CX X σ (E σ)) :
    OpRS X (compareOp .Eq) (rO X.K .eq C sp E) := by
  rintro pins s σ H x y v u Q I rx ry ⟨a, dx, fs, ex, ha, hk, q⟩
  have ex : x = .ref a := ex
  subst ex
  cases (show v = Value.ref a from rx)
  exact LRK.cmp_S (op := .Eq) (fun _ _ => rfl) hs hf F hr (hx σ) I ha ry hk q
theorem ors_ne (hne : PySem.W.findIn X.K (.ref C) "__ne__" = some (some (.builtin "object.__ne__"))) (hm : PySem.W.subIn X.K (.ref C) (.type "object") = some true) (hs : PySem.W.findIn X.K (.ref C) "__eq__" = some (some (.ref g))) (hf : PySem.W.isFn X.K (.ref g) = true)
    (F : FnR X.prog X.w X.K X.mg X.base CX k g sp) (hr : Room (k + 1) X.A) (hx : ∀ σ, PassesAt CX X σ (E σ)) : OpRS X (compareOp .NotEq) (rO X.K .ne C sp E) := by
  rintro pins s σ H x y v u Q I rx ry ⟨a, dx, fs, ex, ha, hk, q⟩
  have ex : x = .ref a := ex
  subst ex
  cases (show v = Value.ref a from rx)
  exact LRK.ne_S hne hm hs hf F hr (hx σ) I ha ry hk q
theorem pe_oget (ha : PE X e1 ta) (hb : PE X e2 tb) (hs : PySem.W.findIn X.K (.ref C) "__getitem__" = some (some (.ref g))) (hf : PySem.W.fnIn X.K g = true) (hfn : PySem.W.isFn X.K (.ref g) = true) (F : FnR X.prog X.w X.K X.mg X.base CX k g sp) (hr : Room (k + 1) X.A) (hx : ∀ σ, PassesAt CX X σ (E σ))
    (hsl : ∀ v i, subscripted e2 true v i = runValue (.builtin "lifetime.subscript" ⟨[v, i], []⟩)) : PE X (.Subscript e1 e2 pos) (tOpS (rO X.K .get C sp E) ta tb) := by
  refine ⟨fun pins s σ H Q I h => ?_⟩
  refine Subscript_ (binT ha hb I (R := fun x y H2 => rO X.K .get C sp E σ x y H2 Q) h fun v u s2 x y H2 I2 rx ry q => ?_)
  obtain ⟨p, dx, fs, ex, hp, _, q⟩ := q
  have ex : x = .ref p := ex
  subst ex
  cases (show v = Value.ref p from rx)
  exact LRK.get_S hs hf hfn F hr (hx σ) I2 hp ry q (hsl _ _)
end
theorem raw0 {P : Program} {w : World} {K : PySem.W.Frag} {mg : Str → Option Value} {base : Heap} {CX : CXT} {k : Nat} {f : Addr} {fd : FuncData} {ps : List Str} {sp : Sp} (F : FnOk P w K mg base CX k f fd ps sp) (hb : Binds K fd ps []) : FnR P w K mg base CX k f sp :=
  (F.raw hb .nil).imp fun vs H Q E q => by rw [List.append_nil]; exact q
/-- what is asked of a class with own operators -/
structure OpF (K : PySem.W.Frag) (C : Addr) : Prop where
  ne : PySem.W.findIn K (.ref C) "__ne__" = some (some (.builtin "object.__ne__"))
  ob : PySem.W.subIn K (.ref C) (.type "object") = some true
  nt : PySem.W.notFirst K C (.type "tuple") = true
  ni : PySem.W.notFirst K C (.type "int") = true
  ks : PySem.W.kitOne K (.ref C) (.ref C) = some true
  kt : PySem.W.kitOne K (.type "tuple") (.ref C) = some false
  ki : PySem.W.kitOne K (.type "int") (.ref C) = some false
  cl : Cls K C
  ca : PySem.W.findIn K (.ref C) "__class__" = some (some (.builtin "object.__class__"))
  cg : PySem.W.specialIn K (.builtin "object.__class__") "__get__" = some (some (.builtin "getset_descriptor.__get__"))
  ct : PySem.W.takesIn K (.builtin "object.__class__") = some true
  gt : ∀ g, PySem.W.findIn K (.ref C) "__getitem__" = some (some (.ref g)) → PySem.W.fnIn K g = true
theorem kind_of {K : PySem.W.Frag} {cn : Cn} {w : Wd} {C : Str} (O : OpF K (cn.ad C)) (rm : RM K cn w) {y : V} {d : D} (r : Rv K w y d) (h : kindD C w.m d = true) : LRK.Kind K (cn.ad C) y w.H := by
  cases r with
  | tup f _ => exact .inr (.inl ⟨⟨_, _, rfl, f.sq⟩, O.nt⟩)
  | int i => exact .inr (.inr ⟨⟨i, rfl⟩, O.ni⟩)
  | @ref a n hM =>
    unfold kindD at h
    simp only at h
    split at h
    · rename_i C' fs hc
      have := of_decide_eq_true h
      subst this
      obtain ⟨dx, fs', h2, _⟩ := rm.ins hM hc
      exact .inl ⟨a, dx, fs', rfl, h2⟩
    · cases h
  | _ => cases h
section
variable {X : Cx} {Z : Ec} {W : WX} {e e1 e2 : Expr} {a b : E} {p pos : Pos}
theorem oo2_core {k : K2} {C key : Str} (O : OpF X.K (Z.cn.ad C)) {σ : L2.St} {H : Hp} {Q : VK} (h : eE X Z W (.oo2 k C key a b) σ H Q) :
    tOpS (rO X.K k (Z.cn.ad C) (spC X.K Z.cn X.mg (Z.cl key) 2) (WE W)) (eE X Z W a) (eE X Z W b) σ H Q := by
  obtain ⟨w, s, hw', rm, rs, p⟩ := h
  subst hw'
  rw [ev] at p
  refine ⟨w, s, rfl, rm, rs, p.split fun d w1 v rm1 fr1 rv p1 => ?_⟩
  refine ⟨w1, s, rfl, rm1, rs.mono fr1.wk, p1.split fun dy w2 v2 rm2 fr2 ry p2 => ?_⟩
  have rx := rv.mono fr2.wk
  cases hi : insOf w2.m (instK2 k d dy) with
  | none => rw [hi] at p2; exact p2.elim
  | some q =>
    rw [hi] at p2
    simp only at p2
    by_cases hc : q.1 = C ∧ kindK2 k C w2.m dy = true
    · rw [if_pos hc] at p2
      obtain ⟨hC, hk⟩ := hc
      have ri : Rv X.K w2 (selI k v v2) (instK2 k d dy) := by cases k <;> first | exact rx | exact ry
      have ro : Rv X.K w2 (selO k v v2) (otherK2 k d dy) := by cases k <;> first | exact rx | exact ry
      have hkv : kindV k X.K (Z.cn.ad C) (selO k v v2) w2.H := by
        cases k <;> first | exact trivial | exact kind_of O rm2 ry hk
      obtain ⟨j, ej, hcell⟩ := insOf_some hi
      rw [ej] at ri p2
      rw [hC] at hcell
      generalize hvi : selI k v v2 = vi at ri
      cases ri with
      | @ref q0 _ hM =>
        obtain ⟨dx, fs', h2, h3⟩ := rm2.ins hM hcell
        refine ⟨q0, dx, fs', hvi, h2, hkv, w2, [.ref j, otherK2 k d dy], rfl, rm2, .cons (.ref hM) (.cons ro .nil), rfl, ?_⟩
        refine p2.split fun r w3 v3 rm3 fr3 rv3 p3 => ?_
        obtain ⟨y, hy, q2⟩ := p3.opt
        cases k with
        | inn => cases rv3 <;> first | (cases hy; done) | (cases hy; exact ⟨_, rfl, q2 w3 _ rfl rm3 (Fr.refl _) (.bl _)⟩)
        | nin => cases rv3 <;> first | (cases hy; done) | (cases hy; exact ⟨_, rfl, q2 w3 _ rfl rm3 (Fr.refl _) (.bl _)⟩)
        | ne => cases rv3 <;> first | (cases hy; done) | (cases hy; exact ⟨_, rfl, q2 w3 _ rfl rm3 (Fr.refl _) (.bl _)⟩)
        | eq => cases rv3 <;> first | (cases hy; done) | (cases hy; exact q2 w3 _ rfl rm3 (Fr.refl _) (.bl _))
        | get =>
          have hz : some r = some y := by cases r <;> exact hy
          cases hz
          exact q2 w3 _ rfl rm3 (Fr.refl _) rv3
    · rw [if_neg hc] at p2
      exact p2.elim
end
/-- which operator, which name -/
def k2Op : K2 → CmpOp → Bool
  | .inn, .In => true
  | .eq, .Eq => true
  | .ne, .NotEq => true
  | _, _ => false
def k2Nm : K2 → Str
  | .inn => "__contains__"
  | .nin => "__contains__"
  | .eq => "__eq__"
  | .ne => "__eq__"
  | .get => "__getitem__"
section
variable {X : Cx} {Z : Ec} {W : WX} {e e1 e2 : Expr} {a b : E} {p pos : Pos} {C key : Str} {ad : Addr} {fd : FuncData} {ps : List Str} {lv : Nat}
theorem ors_of {k : K2} {op : CmpOp} (hk : k2Op k op = true) (O : OpF X.K (Z.cn.ad C)) (F : FnOk X.prog X.w X.K X.mg X.base (L2N.CX X.prog X.w) lv ad fd ps (spC X.K Z.cn X.mg (Z.cl key) 2)) (hr : Room (lv + 1) X.A) (hmt : Meth X.K (Z.cn.ad C) (k2Nm k) ad)
    (hb : Binds X.K fd ps []) (tk : L2N.Takes X W) : OpRS X (compareOp op) (rO X.K k (Z.cn.ad C) (spC X.K Z.cn X.mg (Z.cl key) 2) (WE W)) := by
  unfold k2Op at hk
  split at hk
  · exact ors_in hmt.at_ hmt.fn (raw0 F hb) (hr.mono (Nat.le_succ _)) fun σ => L2N.passAt tk σ
  · exact ors_eq hmt.at_ hmt.fn (raw0 F hb) (hr.mono (Nat.le_succ _)) fun σ => L2N.passAt tk σ
  · exact ors_ne O.ne O.ob hmt.at_ hmt.fn (raw0 F hb) hr fun σ => L2N.passAt tk σ
  · cases hk
theorem se_oo2 {k : K2} {op : CmpOp} (hk : k2Op k op = true) (O : OpF X.K (Z.cn.ad C)) (F : FnOk X.prog X.w X.K X.mg X.base (L2N.CX X.prog X.w) lv ad fd ps (spC X.K Z.cn X.mg (Z.cl key) 2)) (hr : Room (lv + 1) X.A) (hmt : Meth X.K (Z.cn.ad C) (k2Nm k) ad)
    (hb : Binds X.K fd ps []) (tk : L2N.Takes X W) (ha : PE X e1 (eE X Z W a)) (hbb : PE X e2 (eE X Z W b)) (hm : behindInMarks op e2 = false) : PE X (.Compare e1 [op] [e2] pos) (eE X Z W (.oo2 k C key a b)) :=
  pe_imp (pe_cmpS (ors_of hk O F hr hmt hb tk) ha hbb hm) fun _ _ _ h => oo2_core O h
theorem st_oo2 {k : K2} {op : CmpOp} (hk : k2Op k op = true) (O : OpF X.K (Z.cn.ad C)) (F : FnOk X.prog X.w X.K X.mg X.base (L2N.CX X.prog X.w) lv ad fd ps (spC X.K Z.cn X.mg (Z.cl key) 2)) (hr : Room (lv + 1) X.A) (hmt : Meth X.K (Z.cn.ad C) (k2Nm k) ad)
    (hb : Binds X.K fd ps []) (tk : L2N.Takes X W) (ha : PE X e1 (eE X Z W a)) (hbb : PE X e2 (eE X Z W b)) (hm : behindInMarks op e2 = false) : PT X (.Compare e1 [op] [e2] pos) (eT X Z W (.oo2 k C key a b)) :=
  pt_imp (pt_cmpS (ors_of hk O F hr hmt hb tk) ha hbb hm) fun _ _ _ h => oo2_core O (tT_tE h)
theorem se_oget (O : OpF X.K (Z.cn.ad C)) (F : FnOk X.prog X.w X.K X.mg X.base (L2N.CX X.prog X.w) lv ad fd ps (spC X.K Z.cn X.mg (Z.cl key) 2)) (hr : Room (lv + 1) X.A) (hmt : Meth X.K (Z.cn.ad C) "__getitem__" ad)
    (hb : Binds X.K fd ps []) (tk : L2N.Takes X W) (ha : PE X e1 (eE X Z W a)) (hbb : PE X e2 (eE X Z W b)) (hsl : ∀ v i, subscripted e2 true v i = runValue (.builtin "lifetime.subscript" ⟨[v, i], []⟩)) : PE X (.Subscript e1 e2 pos) (eE X Z W (.oo2 .get C key a b)) :=
  pe_imp (pe_oget (C := Z.cn.ad C) (E := WE W) ha hbb hmt.at_ (O.gt _ hmt.at_) hmt.fn (raw0 F hb) hr (fun σ => L2N.passAt tk σ) hsl) fun _ _ _ h => oo2_core O h
end
/-! ### one place: len, -, bool by own defs -/
def tO1 (C : Addr) (sp : Sp) (E : L2.St → XK) (R : VK → VK) (ta : TE) : TE := fun σ H Q => ta σ H fun x H1 => ∃ a dx fs, x = .ref a ∧ H1 a = some (.ins C dx fs) ∧ sp [.ref a] H1 (R Q) (E σ)
def bLenV (Q : VK) : VK := fun z H' => ∃ i, z = .int i ∧ 0 ≤ i ∧ i < 2 ^ 63 ∧ Q z H'
def bTruV (Q : VK) : VK := fun z H' => ∃ b, z = .bl b ∧ Q z H'
def bK1 : K1 → VK → VK
  | .len => bLenV
  | .neg => fun Q => Q
  | .tru => bTruV
section
variable {X : Cx} {CX : CXT} {k : Nat} {C g : Addr} {sp : Sp} {E : L2.St → XK} {x : Str} {p pos : Pos} {e : Expr} {ta : TE}
theorem pe_olen (he : PE X e ta) (hs : PySem.W.findIn X.K (.ref C) "__len__" = some (some (.ref g))) (hf : PySem.W.isFn X.K (.ref g) = true) (F : FnR X.prog X.w X.K X.mg X.base CX k g sp) (hr : Room (k + 1) X.A) (hx : ∀ σ, PassesAt CX X σ (E σ))
    (hg : Gl X x) (hm : X.mg x = none) (hv : bootBuiltins x = some (.builtin "len")) (hn : x ≠ "__name__") (hdb : (x == ("__debug__" : Str)) = false)
    (hst : starEach [e] X.env = (false, eval e X.env) :: starEach [] X.env) : PE X (.Call (.Name x p) [e] [] pos) (tO1 C sp E bLenV ta) := by
  refine ⟨fun pins s σ H Q I h => ?_⟩
  refine wpAny_Call_Name_kw (ld_blt I hg hm hv ?_ hn hdb)
  refine PyProof.Rows.callWith_builtin1 (thn ((pa_cons he pa_nil hst).run pos pins s σ H (fun vs H1 => match vs with
    | [x] => ∃ a dx fs, x = .ref a ∧ H1 a = some (.ins C dx fs) ∧ sp [.ref a] H1 (bLenV Q) (E σ)
    | _ => False) I h) fun us s1 ⟨vs, H1, I1, r1, q1⟩ => ?_) hst rfl
  match vs, q1 with
  | [y], q1 =>
    obtain ⟨a, dx, fs, ey, ha, q⟩ := q1
    subst ey
    obtain ⟨u, eu, ru⟩ := r1.one
    subst eu
    cases (show u = Value.ref a from ru)
    exact LRK.len_S hs hf F hr (hx σ) I1 ha q
theorem pe_obool (he : PE X e ta) (hs : PySem.W.findIn X.K (.ref C) "__bool__" = some (some (.ref g))) (hf : PySem.W.isFn X.K (.ref g) = true) (F : FnR X.prog X.w X.K X.mg X.base CX k g sp) (hr : Room (k + 2) X.A) (hx : ∀ σ, PassesAt CX X σ (E σ))
    (hg : Gl X x) (hm : X.mg x = none) (hv : bootBuiltins x = some (.type "bool")) (hn : x ≠ "__name__") (hdb : (x == ("__debug__" : Str)) = false)
    (hst : starEach [e] X.env = (false, eval e X.env) :: starEach [] X.env) : PE X (.Call (.Name x p) [e] [] pos) (tO1 C sp E bTruV ta) := by
  refine ⟨fun pins s σ H Q I h => ?_⟩
  refine wpAny_Call_Name_kw (ld_blt I hg hm hv ?_ hn hdb)
  refine PyProof.Rows.callWith_type1 (thn ((pa_cons he pa_nil hst).run pos pins s σ H (fun vs H1 => match vs with
    | [x] => ∃ a dx fs, x = .ref a ∧ H1 a = some (.ins C dx fs) ∧ sp [.ref a] H1 (bTruV Q) (E σ)
    | _ => False) I h) fun us s1 ⟨vs, H1, I1, r1, q1⟩ => ?_) hst rfl
  match vs, q1 with
  | [y], q1 =>
    obtain ⟨a, dx, fs, ey, ha, q⟩ := q1
    subst ey
    obtain ⟨u, eu, ru⟩ := r1.one
    subst eu
    cases (show u = Value.ref a from ru)
    exact LRK.bool_S hs hf F hr (hx σ) I1 ha q
theorem pe_oneg (he : PE X e ta) (hs : PySem.W.findIn X.K (.ref C) "__neg__" = some (some (.ref g))) (hf : PySem.W.isFn X.K (.ref g) = true) (F : FnR X.prog X.w X.K X.mg X.base CX k g sp) (hr : Room k X.A) (hx : ∀ σ, PassesAt CX X σ (E σ)) :
    PE X (.UnaryOp .USub e pos) (tO1 C sp E (fun Q => Q) ta) := by
  refine ⟨fun pins s σ H Q I h => ?_⟩
  refine UnaryOp_ (thn (he.run pins s σ H _ I h) fun v s1 ⟨x, H1, I1, r1, q1⟩ => ?_)
  obtain ⟨a, dx, fs, ex, ha, q⟩ := q1
  subst ex
  cases (show v = Value.ref a from r1)
  exact LRK.neg_S hs hf F hr (hx σ) I1 ha q
end
section
variable {X : Cx} {Z : Ec} {W : WX} {e : Expr} {a : E} {p pos : Pos} {C key x : Str} {ad : Addr} {fd : FuncData} {ps : List Str} {lv : Nat}
theorem oo1_core {k : K1} {σ : L2.St} {H : Hp} {Q : VK} (h : eE X Z W (.oo1 k C key a) σ H Q) : tO1 (Z.cn.ad C) (spC X.K Z.cn X.mg (Z.cl key) 1) (WE W) (bK1 k) (eE X Z W a) σ H Q := by
  obtain ⟨w, s, hw', rm, rs, p⟩ := h
  subst hw'
  rw [ev] at p
  refine ⟨w, s, rfl, rm, rs, p.split fun d w1 v rm1 fr1 rv p1 => ?_⟩
  cases hi : insOf w1.m d with
  | none => rw [hi] at p1; exact p1.elim
  | some q =>
    rw [hi] at p1
    simp only at p1
    by_cases hC : q.1 = C
    · rw [if_pos hC] at p1
      obtain ⟨j, rfl, hcell⟩ := insOf_some hi
      rw [hC] at hcell
      cases rv with
      | @ref q0 _ hM =>
        obtain ⟨dx, fs', h2, h3⟩ := rm1.ins hM hcell
        refine ⟨q0, dx, fs', rfl, h2, w1, [.ref j], rfl, rm1, .cons (.ref hM) .nil, rfl, ?_⟩
        refine p1.split fun r w2 v2 rm2 fr2 rv2 p2 => ?_
        obtain ⟨y, hy, q2⟩ := p2.opt
        cases k with
        | neg =>
          have hz : some r = some y := by cases r <;> exact hy
          cases hz
          exact q2 w2 _ rfl rm2 (Fr.refl _) rv2
        | tru => cases rv2 <;> first | (cases hy; done) | (cases hy; exact ⟨_, rfl, q2 w2 _ rfl rm2 (Fr.refl _) (.bl _)⟩)
        | len =>
          cases rv2 with
          | int i =>
            have hz : (if 0 ≤ i ∧ i < 2 ^ 63 then some (D.int i) else none) = some y := hy
            by_cases hi2 : 0 ≤ i ∧ i < 2 ^ 63
            · rw [if_pos hi2] at hz
              cases hz
              exact ⟨i, rfl, hi2.1, hi2.2, q2 w2 _ rfl rm2 (Fr.refl _) (.int i)⟩
            · rw [if_neg hi2] at hz
              cases hz
          | _ => cases hy
    · rw [if_neg hC] at p1
      exact p1.elim
theorem se_olen (F : FnOk X.prog X.w X.K X.mg X.base (L2N.CX X.prog X.w) lv ad fd ps (spC X.K Z.cn X.mg (Z.cl key) 1)) (hr : Room (lv + 1) X.A) (hmt : Meth X.K (Z.cn.ad C) "__len__" ad)
    (hb : Binds X.K fd ps []) (tk : L2N.Takes X W) (ho : PE X e (eE X Z W a)) (hg : Gl X "len") (hm : X.mg "len" = none) (hst : starEach [e] X.env = (false, eval e X.env) :: starEach [] X.env) : PE X (.Call (.Name "len" p) [e] [] pos) (eE X Z W (.oo1 .len C key a)) :=
  pe_imp (pe_olen (C := Z.cn.ad C) (E := WE W) ho hmt.at_ hmt.fn (raw0 F hb) hr (fun σ => L2N.passAt tk σ) hg hm boot_len (by decide) (by decide) hst) fun _ _ _ h => oo1_core h
theorem se_obool (F : FnOk X.prog X.w X.K X.mg X.base (L2N.CX X.prog X.w) lv ad fd ps (spC X.K Z.cn X.mg (Z.cl key) 1)) (hr : Room (lv + 2) X.A) (hmt : Meth X.K (Z.cn.ad C) "__bool__" ad)
    (hb : Binds X.K fd ps []) (tk : L2N.Takes X W) (ho : PE X e (eE X Z W a)) (hg : Gl X "bool") (hm : X.mg "bool" = none) (hst : starEach [e] X.env = (false, eval e X.env) :: starEach [] X.env) : PE X (.Call (.Name "bool" p) [e] [] pos) (eE X Z W (.oo1 .tru C key a)) :=
  pe_imp (pe_obool (C := Z.cn.ad C) (E := WE W) ho hmt.at_ hmt.fn (raw0 F hb) hr (fun σ => L2N.passAt tk σ) hg hm PyProof.Rows.boot_bool (by decide) (by decide) hst) fun _ _ _ h => oo1_core h
theorem se_oneg (F : FnOk X.prog X.w X.K X.mg X.base (L2N.CX X.prog X.w) lv ad fd ps (spC X.K Z.cn X.mg (Z.cl key) 1)) (hr : Room lv X.A) (hmt : Meth X.K (Z.cn.ad C) "__neg__" ad)
    (hb : Binds X.K fd ps []) (tk : L2N.Takes X W) (ho : PE X e (eE X Z W a)) : PE X (.UnaryOp .USub e pos) (eE X Z W (.oo1 .neg C key a)) :=
  pe_imp (pe_oneg (C := Z.cn.ad C) (E := WE W) ho hmt.at_ hmt.fn (raw0 F hb) hr (fun σ => L2N.passAt tk σ)) fun _ _ _ h => oo1_core h
end
/-! ### isinstance(x, C) -/
section
variable {X : Cx} {Z : Ec} {W : WX} {e : Expr} {a : E} {p p2 pos : Pos} {C : Str}
theorem se_iso (O : OpF X.K (Z.cn.ad C)) (ha : PE X e (eE X Z W a)) (hg : Gl X "isinstance") (hm : X.mg "isinstance" = none) (hg2 : Gl X C) (hm2 : X.mg C = some (.ref (Z.cn.ad C))) (hd : (C == ("__debug__" : Str)) = false)
    (he : starEach [e, .Name C p2] X.env = (false, eval e X.env) :: starEach [.Name C p2] X.env) (hpl : (backTo pos (starEach [.Name C p2] X.env)).any (·.1) = false) : PE X (.Call (.Name "isinstance" p) [e, .Name C p2] [] pos) (eE X Z W (.iso C a)) :=
  pe_imp (pe_callB call_isi hg hm boot_isinstance (pa_cons ha (pa_cons (pe_glob (v := .ref (Z.cn.ad C)) hg2 hm2 rfl hd) pa_nil rfl) he) (by decide) (by decide) he hpl) fun σ H Q ⟨w, s, hw, rm, rs, p⟩ => by
    subst hw
    rw [ev] at p
    refine ⟨w, s, rfl, rm, rs, p.split fun d w1 v rm1 fr rv p1 => ?_⟩
    obtain ⟨o, ho, q⟩ := p1.opt
    have q2 : ∀ b, o = .bl b → Q (.bl b) w1.H := fun b e => by subst e; exact q w1 _ rfl rm1 (Fr.refl _) (.bl b)
    cases rv with
    | tup f r =>
      have ho : some (D.bl false) = some o := ho
      cases ho
      exact ⟨_, .ref (Z.cn.ad C), .type "tuple", .ref (Z.cn.ad C), false, rfl, .own _, rv_ty (d := .tup _) rm1 (.tup f r) rfl, O.kt, q2 _ rfl⟩
    | int i =>
      have ho : some (D.bl false) = some o := ho
      cases ho
      exact ⟨_, .ref (Z.cn.ad C), .type "int", .ref (Z.cn.ad C), false, rfl, .own _, rv_ty (d := .int i) rm1 (.int i) rfl, O.ki, q2 _ rfl⟩
    | @ref ad n hM =>
      unfold semIso at ho
      simp only at ho
      split at ho
      · rename_i C' fs hc
        split at ho
        · rename_i e
          subst e
          cases ho
          obtain ⟨dx, fs', h2, _⟩ := rm1.ins hM hc
          exact ⟨_, .ref (Z.cn.ad C'), .ref (Z.cn.ad C'), .ref (Z.cn.ad C'), true, rfl, .own _, .base (.ins h2 O.cl O.ca O.cg O.ct O.ob), O.ks, q2 _ rfl⟩
        · cases ho
      · cases ho
    | _ => cases ho
end
/-! ### properties that raise nothing -/
section
variable {X : Cx} {k : Nat} {C p g a dx : Addr} {fs : List (Str × V)} {f : Str} {sp : Sp} {e : Expr} {pos : Pos} {ta : TE}
theorem getprop_N {pins : List (Addr × Obj)} {σ : L2.St} {H : Hp} {s : Shared} {Q : VK} {b : Bool} {E' : Value → Shared → Prop} (I : Inv X pins σ H s) (ea : H a = some (.ins C dx fs)) (c : Cls X.K C) (hp : PropOf X.K C f p g)
    (F : FnR X.prog X.w X.K X.mg X.base (L2N.CX X.prog X.w) k g sp) (hr : Room (k + 1) X.A) (h : sp [.ref a] H Q fun _ _ _ => False) :
    wpAny (model X.prog X.w) X.A (getAttr (.ref a) f b) (EP X pins σ Q) E' s := by
  obtain ⟨mA, O, _, _, _, _⟩ := ins_get I.hok ea
  obtain ⟨od, J, _⟩ := O.look
  obtain ⟨rest, hrec⟩ := hp.rec_
  have I1 := I.tok (s.toks + 1)
  have hc : (PySem.W.clsIn X.K C).isSome = true := by
    obtain ⟨cd, hc, _⟩ := PySem.W.any_some c.hd
    rw [hc]
    rfl
  refine PySem.W.get_bind I.kIn J (PySem.W.plainGet_of (c.get f)).1 (PySem.W.findObj_data hc hp.at_ hp.get hp.tak) (PySem.W.plainGet_of (c.get f)).2 (wpAny_call (PySem.W.prop_get (s := { s with toks := s.toks + 1 }) I.kIn hrec ?_))
  refine codeAny_mono (F X.A.in1 X.stack { s with toks := s.toks + 1 } H [.ref a] [.ref a] Q _ hr.in1 I1.env0.in1 (.cons rfl .nil) h) fun r s' hq => ?_
  cases r with
  | error er =>
    obtain ⟨_, _, _, _, _, _, _, _, _, _, _, _, z⟩ := hq
    exact z.elim
  | ok fl =>
    cases fl with
    | ret u =>
      obtain ⟨v, H', I3, rv, q3⟩ := I1.after hq
      show wpAny _ _ (handedOut u) _ _ _
      rw [PySem.W.handedOut_of (handed_of rv)]
      exact wpAny_pure ⟨v, H', I3, rv, q3⟩
    | next => exact False.elim hq
    | brk => exact False.elim hq
    | cont => exact False.elim hq
theorem pe_propN (he : PE X e ta) (c : Cls X.K C) (hp : PropOf X.K C f p g) (F : FnR X.prog X.w X.K X.mg X.base (L2N.CX X.prog X.w) k g sp) (hr : Room (k + 1) X.A)
    (hab : attributeBase e f X.env (eval e X.env) = eval e X.env) : PE X (.Attribute e f pos) (tO1 C sp (fun _ _ _ _ => False) (fun Q => Q) ta) := by
  refine ⟨fun pins s σ H Q I h => ?_⟩
  refine attr_of hab (thn (he.run pins s σ H _ I h) fun u s1 ⟨x, H1, I1, rx, a, dx, fs, ex, ea, q⟩ => ?_)
  subst ex
  obtain rfl : u = Value.ref a := rx
  exact getprop_N I1 ea c hp F hr q
end
section
variable {X : Cx} {Z : Ec} {W : WX} {e : Expr} {a : E} {pos : Pos} {C x key : Str} {p ad : Addr} {fd : FuncData} {ps : List Str} {lv : Nat}
theorem se_prp (F : FnOk X.prog X.w X.K X.mg X.base (L2N.CX X.prog X.w) lv ad fd ps (spC X.K Z.cn X.mg (Z.cl key) 1)) (hr : Room (lv + 1) X.A) (c : Cls X.K (Z.cn.ad C)) (hp : PropOf X.K (Z.cn.ad C) x p ad)
    (hb : Binds X.K fd ps []) (ho : PE X e (eE X Z W a)) (hab : attributeBase e x X.env (eval e X.env) = eval e X.env) : PE X (.Attribute e x pos) (eE X Z W (.prp a C x key)) :=
  pe_imp (pe_propN (C := Z.cn.ad C) ho c hp (raw0 F hb) hr hab) fun σ H Q ⟨w, s, hw', rm, rs, p⟩ => by
    subst hw'
    rw [ev] at p
    refine ⟨w, s, rfl, rm, rs, p.split fun d w1 v rm1 fr1 rv p1 => ?_⟩
    cases hi : insOf w1.m d with
    | none => rw [hi] at p1; exact p1.elim
    | some q =>
      rw [hi] at p1
      simp only at p1
      by_cases hC : q.1 = C
      · rw [if_pos hC] at p1
        obtain ⟨j, rfl, hcell⟩ := insOf_some hi
        rw [hC] at hcell
        cases rv with
        | @ref q0 _ hM =>
          obtain ⟨dx, fs', h2, h3⟩ := rm1.ins hM hcell
          refine ⟨q0, dx, fs', rfl, h2, w1, [.ref j], rfl, rm1, .cons (.ref hM) .nil, rfl, ?_⟩
          cases hcl : Z.cl key [.ref j] w1.m with
          | err => rw [hcl] at p1; exact p1
          | exc x m => rw [hcl] at p1; exact p1.elim
          | ok r m => rw [hcl] at p1; exact p1
      · rw [if_neg hC] at p1
        exact p1.elim
end
/-! ### C(e, ..) where __init__ takes *holes -/
/-- the promise of a def with a star parameter behind k others -/
def starSp (k : Nat) (sp : Sp) : Sp := fun vs H Q E => ∃ ws rest, vs = ws ++ rest ∧ ws.length = k ∧ rest.length ≤ sizeLine ∧ ∀ p, H p = none → sp (ws ++ [V.ref p]) (upd H p (.tup rest)) Q E
section
variable {X : Cx} {CX : CXT} {k : Nat} {f C : Addr} {sp : Sp} {E : L2.St → XK} {x : Str} {p pos : Pos} {e : Expr} {es : List Expr} {t : TA}
theorem run_makeRS {pins : List (Addr × Obj)} {σ : L2.St} {H : Hp} {s : Shared} {Q : VK} {us : List Value} {vs : List V} {E : XK} (M : Mk X.K C f) (F : FnR X.prog X.w X.K X.mg X.base CX k f sp) (hr : Room (k + 1) X.A)
    (hx : PassesAt CX X σ E) (I : Inv X pins σ H s) (r : Vals vs us)
    (h : ∀ x dx, H x = none → H dx = none → dx ≠ x → sp (.ref x :: vs) (upd (upd H dx (.own x)) x (.ins C dx [])) (fun v H2 => v = .non ∧ Q (.ref x) H2) E) :
    wpAny (model X.prog X.w) X.A (call (.ref C) us) (EP X pins σ Q) X.xe s := by
  have hq := h (s.heap.objs.size + 1) s.heap.objs.size (I.hok.fresh (Nat.le_succ _)) (I.hok.fresh (Nat.le_refl _)) (Nat.ne_of_lt (Nat.lt_succ_self _))
  have I2 := Inv.made (C := C) I
  have r2 : Vals (V.ref (s.heap.objs.size + 1) :: vs) (Value.ref (s.heap.objs.size + 1) :: us) := .cons rfl r
  refine wpAny_call (make_map (f := f) I.kIn M.makes M.init (beq_iff_eq.mp M.fn) (codeAny_mono (F _ X.stack _ _ (Value.ref (s.heap.objs.size + 1) :: us) _ _ E (hr.make C us [])
    (I2.env0.make C us []) r2 hq) fun r s' hq' => ?_))
  cases r with
  | error e => exact hx pins _ _ e s' I2 hq'
  | ok fl =>
    cases fl with
    | ret u =>
      obtain ⟨v, H', I3, rv, ev, q3⟩ := I2.after hq'
      subst ev
      exact ⟨rv, ⟨V.ref (s.heap.objs.size + 1), H', I3, rfl, q3⟩⟩
    | next => exact False.elim hq'
    | brk => exact False.elim hq'
    | cont => exact False.elim hq'
theorem pe_makeRS (M : Mk X.K C f) (F : FnR X.prog X.w X.K X.mg X.base CX k f sp) (hr : Room (k + 1) X.A) (hg : Gl X x) (hm : X.mg x = some (.ref C)) (hx : ∀ σ, PassesAt CX X σ (E σ))
    (ha : PA X (e :: es) t) (hdb : (x == ("__debug__" : Str)) = false) (he : starEach (e :: es) X.env = (false, eval e X.env) :: starEach es X.env) (hpl : (backTo pos (starEach es X.env)).any (·.1) = false) :
    PE X (.Call (.Name x p) (e :: es) [] pos) (tMakeE C sp E t) := by
  refine ⟨fun pins s σ H Q I h => ?_⟩
  refine wpAny_Call_Name_kw (ld_glob I hg hm ?_ hdb)
  refine PySem.W.callWith_K (h₀ := X.base) I.ok.mod.kin M.kp (thn (ha.run pos pins s σ H _ I h) fun us s1 ⟨vs, H1, I1, r, q⟩ => ⟨I1.kIn, ?_⟩) he hpl
  exact run_makeRS M F hr (hx σ) I1 r q
end
/-- *e as the last argument -/
def tStarB (K : PySem.W.Frag) (te : TE) : TA := fun σ H Q => te σ H fun x H1 => ∃ p xs, x = V.ref p ∧ (SqL K H1 p xs ∨ SqT K H1 p xs) ∧ (xs.length ≤ sizeLine → Q xs H1)
section
variable {X : Cx} {CX : CXT} {k : Nat} {f C : Addr} {sp : Sp} {E : L2.St → XK} {x : Str} {p pos : Pos} {e : Expr} {es : List Expr} {t : TA} {te : TE}
theorem pa_starB (he : PE X e te) : PA X [.Starred e p] (tStarB X.K te) := by
  refine ⟨fun pos pins s σ H Q I h => ?_⟩
  refine PySem.W.items_star (thn (he.run pins s σ H _ I h) fun v s1 ⟨y, H1, I1, ry, a, xs, ey, hx, q⟩ => ?_) rfl
  subst ey
  obtain rfl : v = Value.ref a := ry
  have hz : xs.length ≤ sizeLine := by
    rcases hx with hx | hx
    · obtain ⟨_, _, _, hz⟩ := I1.list hx
      exact hz
    · obtain ⟨_, _, _, hz⟩ := I1.tuple hx
      exact hz
  refine StX.star_any I1 hx.symm fun us s2 I2 rv => ?_
  exact Calls.spliced_nil ⟨xs, H1, I2, by simpa using rv, q hz⟩
theorem pe_makeRS2 (M : Mk X.K C f) (F : FnR X.prog X.w X.K X.mg X.base CX k f sp) (hr : Room (k + 1) X.A) (hg : Gl X x) (hm : X.mg x = some (.ref C)) (hx : ∀ σ, PassesAt CX X σ (E σ))
    (ha : PA X (e :: es) t) (hdb : (x == ("__debug__" : Str)) = false) (he : starEach (e :: es) X.env = (false, eval e X.env) :: starEach es X.env) (hpl : (backTo pos (starEach es X.env)).any (·.1) = true) :
    PE X (.Call (.Name x p) (e :: es) [] pos) (tMakeE C sp E t) := by
  refine ⟨fun pins s σ H Q I h => ?_⟩
  refine wpAny_Call_Name_kw (ld_glob I hg hm ?_ hdb)
  refine PySem.W.callWith_S2 (h₀ := X.base) I.ok.mod.kin M.kp (thn (ha.run pos pins s σ H _ I h) fun us s1 ⟨vs, H1, I1, r, q⟩ => ⟨I1.kIn, ?_⟩) he hpl
  exact run_makeRS M F hr (hx σ) I1 r q
end
section
variable {X : Cx} {Z : Ec} {W : WX} {e e1 e2 : Expr} {es : List Expr} {a b : E} {as : Es} {p pos p2 : Pos} {C key x : Str} {ad : Addr} {lv : Nat}
theorem mkS_post {σ : L2.St} {Q : VK} {w1 : Wd} {v : V} {d : D} {vs' : List V} {ds' : List D} (rm1 : RM X.K Z.cn w1) (rv : Rv X.K w1 v d) (hv : Rvs X.K w1 vs' ds') (hlen : vs'.length ≤ sizeLine)
    (p3 : Post X.K Z.cn X.mg (Rv X.K) Q (WE W σ) w1 ((Z.cl key [.ref w1.m.length, d, .tup ds'] (w1.m ++ [.ins C []])).bind fun r m' => match r with
      | .non => .ok (.ref w1.m.length) m'
      | _ => .err)) {x dx : Addr} (hx : w1.H x = none) (hdx : w1.H dx = none) (hne : dx ≠ x) :
    starSp 2 (spC X.K Z.cn X.mg (Z.cl key) 3) (.ref x :: v :: vs') (upd (upd w1.H dx (.own x)) x (.ins (Z.cn.ad C) dx [])) (fun v H2 => v = .non ∧ Q (.ref x) H2) (WE W σ) := by
  have rmA : RM X.K Z.cn (w1.put dx (.own x)) := rm1.put hdx
  have frA : Fr w1 (w1.put dx (.own x)) := Fr.put rm1 hdx
  have hxA : (w1.put dx (.own x)).H x = none := by
    show upd w1.H dx (.own x) x = none
    rw [upd_ne (fun z => hne z.symm)]
    exact hx
  have rmB : RM X.K Z.cn ((w1.put dx (.own x)).alloc x (.ins (Z.cn.ad C) dx []) (.ins C [])) := rmA.alloc hxA ⟨dx, [], upd_same, .nil⟩
  have frB : Fr w1 ((w1.put dx (.own x)).alloc x (.ins (Z.cn.ad C) dx []) (.ins C [])) := frA.trans (Fr.alloc rmA hxA)
  have hMx : ((w1.put dx (.own x)).alloc x (.ins (Z.cn.ad C) dx []) (.ins C [])).M[w1.m.length]? = some x := by
    show (w1.M ++ [x])[w1.m.length]? = some x
    rw [← rm1.len, List.getElem?_append_right (Nat.le_refl _)]
    simp
  generalize hwB : (w1.put dx (.own x)).alloc x (.ins (Z.cn.ad C) dx []) (.ins C []) = wB at rmB frB hMx
  have hmB : wB.m = w1.m ++ [.ins C []] := by rw [← hwB] <;> rfl
  have hHB : wB.H = upd (upd w1.H dx (.own x)) x (.ins (Z.cn.ad C) dx []) := by rw [← hwB] <;> rfl
  rw [← hHB]
  refine ⟨[.ref x, v], vs', rfl, rfl, hlen, fun p hp => ?_⟩
  have rmC := rmB.put (o := .tup vs') hp
  have frC := Fr.put (o := .tup vs') rmB hp
  refine ⟨wB.put p (.tup vs'), [.ref w1.m.length, d, .tup ds'], rfl, rmC, .cons ((Rv.ref hMx).mono frC.wk) (.cons ((rv.mono frB.wk).mono frC.wk) (.cons (Rv.newTup rmB hp (hv.mono frB.wk)) .nil)), rfl, ?_⟩
  have hmC : (wB.put p (.tup vs')).m = w1.m ++ [.ins C []] := hmB
  rw [hmC]
  cases hcl : Z.cl key [.ref w1.m.length, d, .tup ds'] (w1.m ++ [.ins C []]) with
  | err => rw [hcl] at p3; exact p3
  | exc y m' =>
    rw [hcl] at p3
    have p3 : Post X.K Z.cn X.mg (Rv X.K) Q (WE W σ) w1 (.exc y m') := p3
    exact fun w' cls d hm rm' fr hc hf => p3 w' cls d hm rm' ((frB.trans frC).trans fr) hc hf
  | ok d m' =>
    rw [hcl] at p3
    cases d with
    | non =>
      have p3 : Post X.K Z.cn X.mg (Rv X.K) Q (WE W σ) w1 (.ok (.ref w1.m.length) m') := p3
      intro w' b hm rm' fr hr
      cases hr
      exact ⟨rfl, p3 w' (.ref x) hm rm' ((frB.trans frC).trans fr) (((Rv.ref hMx).mono frC.wk).mono fr.wk)⟩
    | _ => exact p3.elim
theorem evs_tupd {G : Str → Option D} {cl : Str → List D → Mem → R D} {s : Sl} {m : Mem} : evs G cl (.cons a (.cons (.tup as) .nil)) s m = (ev G cl a s m).bind fun d m => (evs G cl as s m).bind fun ds m => .ok [d, .tup ds] m := by
  rw [evs]
  congr 1
  funext d m1
  rw [evs, ev]
  cases evs G cl as s m1 with
  | ok ds m2 =>
    show ((evs G cl .nil s m2).bind fun ds' m => R.ok (.tup ds :: ds') m).bind (fun ds m => R.ok (d :: ds) m) = _
    rw [evs]
    rfl
  | exc x m2 => rfl
  | err => rfl
theorem mkS_core {σ : L2.St} {H : Hp} {Q : VK} (hl : as.len ≤ 1000) (h : eE X Z W (.mk C key (.cons a (.cons (.tup as) .nil))) σ H Q) : tMakeE (Z.cn.ad C) (starSp 2 (spC X.K Z.cn X.mg (Z.cl key) 3)) (WE W) (eA X Z W (.cons a as)) σ H Q := by
  obtain ⟨w, s, hw', rm, rs, p⟩ := h
  subst hw'
  rw [ev, evs_tupd] at p
  refine ⟨w, s, rfl, rm, rs, ?_⟩
  rw [evs]
  cases hr' : ev Z.G Z.cl a s w.m with
  | err => rw [hr'] at p; exact p
  | exc x m => rw [hr'] at p; exact p
  | ok d m =>
    rw [hr'] at p
    have p : Post X.K Z.cn X.mg (Rv X.K) Q (WE W σ) w (((evs Z.G Z.cl as s m).bind fun ds m => R.ok [d, .tup ds] m).bind fun ds m => (Z.cl key (.ref m.length :: ds) (m ++ [.ins C []])).bind fun r m' => match r with
      | .non => .ok (.ref m.length) m'
      | _ => .err) := p
    show Post _ _ _ _ _ _ _ ((evs Z.G Z.cl as s m).bind fun ds m => R.ok (d :: ds) m)
    cases hr2 : evs Z.G Z.cl as s m with
    | err => rw [hr2] at p; exact p
    | exc x m => rw [hr2] at p; exact p
    | ok ds m2 =>
      rw [hr2] at p
      intro w1 vs hm1 rm1 fr1 hv x dx hx hdx hne
      cases hv with
      | cons rv hv =>
        have p2 : Post X.K Z.cn X.mg (Rv X.K) Q (WE W σ) w ((Z.cl key [.ref m2.length, d, .tup ds] (m2 ++ [.ins C []])).bind fun r m' => match r with
          | .non => .ok (.ref m2.length) m'
          | _ => .err) := p
        rw [← hm1] at p2
        have hlen := evs_len hr2
        have h2 := hv.length
        exact mkS_post rm1 rv hv (le_line (by unfold lim; omega)) (p2.later fr1) hx hdx hne
/-- C(e, ..), __init__(self, a, *holes) -/
theorem se_mks {M : Mk X.K (Z.cn.ad C) ad} (F : FnR X.prog X.w X.K X.mg X.base (L2N.CX X.prog X.w) lv ad (starSp 2 (spC X.K Z.cn X.mg (Z.cl key) 3))) (hr : Room (lv + 1) X.A) (hg : Gl X x) (hm : X.mg x = some (.ref (Z.cn.ad C)))
    (tk : L2N.Takes X W) (ha : PA X (e :: es) (eA X Z W (.cons a as))) (hdb : (x == ("__debug__" : Str)) = false) (hst : starEach (e :: es) X.env = (false, eval e X.env) :: starEach es X.env) (hpl : (backTo pos (starEach es X.env)).any (·.1) = false)
    (hl : as.len ≤ 1000) : PE X (.Call (.Name x p) (e :: es) [] pos) (eE X Z W (.mk C key (.cons a (.cons (.tup as) .nil)))) := pe_imp (pe_makeRS (E := WE W) M F hr hg hm (fun σ => L2N.passAt tk σ) ha hdb hst hpl) fun _ _ _ h => mkS_core hl h
/-- C(e, *t) -/
theorem se_mks2 {M : Mk X.K (Z.cn.ad C) ad} (F : FnR X.prog X.w X.K X.mg X.base (L2N.CX X.prog X.w) lv ad (starSp 2 (spC X.K Z.cn X.mg (Z.cl key) 3))) (hr : Room (lv + 1) X.A) (hg : Gl X x) (hm : X.mg x = some (.ref (Z.cn.ad C)))
    (tk : L2N.Takes X W) (ha : PE X e1 (eE X Z W a)) (hb : PE X e2 (eE X Z W b)) (hdb : (x == ("__debug__" : Str)) = false) (hst : starEach [e1, .Starred e2 p2] X.env = (false, eval e1 X.env) :: starEach [.Starred e2 p2] X.env) :
    PE X (.Call (.Name x p) [e1, .Starred e2 p2] [] pos) (eE X Z W (.mk C key (.cons a (.cons (.bi .tuple (.cons b .nil)) .nil)))) :=
  pe_imp (pe_makeRS2 (E := WE W) M F hr hg hm (fun σ => L2N.passAt tk σ) (pa_cons ha (pa_starB hb) hst) hdb hst rfl) fun σ H Q ⟨w, s, hw', rm, rs, p⟩ => by
    subst hw'
    rw [ev, evs] at p
    refine ⟨w, s, rfl, rm, rs, ?_⟩
    cases hr' : ev Z.G Z.cl a s w.m with
    | err => rw [hr'] at p; exact p
    | exc x m => rw [hr'] at p; exact p
    | ok d m =>
      rw [hr'] at p
      intro w1 v hm1 rm1 fr1 rv
      refine ⟨w1, s, rfl, rm1, rs.mono fr1.wk, ?_⟩
      rw [hm1]
      have p : Post X.K Z.cn X.mg (Rv X.K) Q (WE W σ) w (((evs Z.G Z.cl (.cons (.bi .tuple (.cons b .nil)) .nil) s m).bind fun ds m => R.ok (d :: ds) m).bind fun ds m => (Z.cl key (.ref m.length :: ds) (m ++ [.ins C []])).bind fun r m' => match r with
        | .non => .ok (.ref m.length) m'
        | _ => .err) := p
      rw [evs, ev, evs] at p
      cases hr2 : ev Z.G Z.cl b s m with
      | err => rw [hr2] at p; exact p
      | exc x m => rw [hr2] at p; exact (p.later fr1)
      | ok d2 m2 =>
        rw [hr2] at p
        rw [show (R.ok d2 m2 : R D) = R.ok d2 m2 from rfl] at p
        intro w2 v2 hm2 rm2 fr2 rv2
        cases hs : d2.seq m2 with
        | none =>
          exfalso
          simp only [R.bind, evs, semBi, bTuple, hs, Option.map_none, opt] at p
          exact p
        | some l =>
          simp only [R.bind, evs, semBi, bTuple, hs, Option.map_some, opt] at p
          rw [← hm2] at hs p
          obtain ⟨q, xs, rfl, sq, r⟩ := Rv.seq rm2 rv2 hs
          refine ⟨q, xs, rfl, sq, fun hz x dx hx hdx hne => ?_⟩
          have p' : Post X.K Z.cn X.mg (Rv X.K) Q (WE W σ) w ((Z.cl key [.ref w2.m.length, d, .tup l] (w2.m ++ [.ins C []])).bind fun r m' => match r with
            | .non => .ok (.ref w2.m.length) m'
            | _ => .err) := p
          exact mkS_post rm2 (rv.mono fr2.wk) r hz (p'.later (fr1.trans fr2)) hx hdx hne
end
end LR

set_option Elab.async false
set_option linter.all false
set_option maxRecDepth 100000
set_option maxHeartbeats 4000000
namespace LR
open PySem PySem.Spec PyProof.Rows L2
/-- o.m(e, ..) as the rules want it told -/
theorem ht_of {o : Expr} {m : Str} {args : List Expr} {apos pos : Pos} {env : Env} (hbase : attributeBase o m env (eval o env) = eval o env)
    (hform : methodCallForm args.length (backTo pos (starEach args env)) (backToKw pos (keywordEach [] env)) = true) (hline : (apos.endLine == pos.line) = true) :
    eval (.Call (.Attribute o m apos) args [] pos) env = (do
      let ov ← eval o env
      standAt apos.atName
      let (f, first) ← holding [ov] (getMethod ov m (do return (← importBound o env).getD true))
      callWith pos f first (backTo pos (starEach args env)) (backToKw pos (keywordEach [] env))) := by
  have hp : methodCallPos true o env apos pos = pure pos := by
    unfold methodCallPos
    rw [hline]
    rfl
  rw [arm_eval_Call, hbase]
  unfold methodCall
  have hlen : args.length + ([] : List Keyword).length = args.length := rfl
  rw [hlen, hform, hp]
  rfl
end LR

set_option Elab.async false
set_option linter.all false
set_option maxRecDepth 100000
set_option maxHeartbeats 4000000
namespace LR
open PySem PySem.Spec PyProof.Rows L2
section
variable {X : Cx} {Z : Ec} {W : WX} {e1 e2 : Expr} {a b : E} {pos : Pos}
/-- {k: v} -/
theorem se_dn1 (hP : Z.cn.P = X.prog) (hw : Z.cn.w = X.w) (hu : X.A.units + 64 < cLine) (hk : PE X e1 (eE X Z W a)) (hv : PE X e2 (eE X Z W b)) : PE X (.Dict [some e1] [e2] pos) (eE X Z W (.dn1 a b)) :=
  pe_imp (pe_disp1N hu hk hv) fun σ H Q ⟨w, s, hw', rm, rs, p⟩ => by
    subst hw'
    rw [ev] at p
    intro q hq
    have fr0 : Fr w (w.alloc q (NdO X.prog X.w q []) (.dic [])) := Fr.alloc rm hq
    have rm0 : RM X.K Z.cn (w.alloc q (NdO X.prog X.w q []) (.dic [])) := rm.alloc hq ⟨[], by rw [hP, hw]; exact upd_same, .nil⟩
    have hM0 : (w.alloc q (NdO X.prog X.w q []) (.dic [])).M[w.m.length]? = some q := by
      show (w.M ++ [q])[w.m.length]? = some q
      rw [← rm.len, List.getElem?_append_right (Nat.le_refl _)]
      simp
    have p0 := p.later fr0
    generalize hw0 : w.alloc q (NdO X.prog X.w q []) (.dic []) = w0 at *
    have em : w.m ++ [.dic []] = w0.m := by rw [← hw0]
    have eH : upd w.H q (NdO X.prog X.w q []) = w0.H := by rw [← hw0]
    rw [em] at p0
    rw [eH]
    generalize w.m.length = n at *
    refine ⟨w0, s, rfl, rm0, rs.mono fr0.wk, p0.split fun dx w1 x rm1 fr1 rx p1 => ?_⟩
    refine ⟨w1, s, rfl, rm1, (rs.mono fr0.wk).mono fr1.wk, p1.split fun dy w2 y rm2 fr2 ry p2 => ?_⟩
    have hM2 := fr2.wk.at (fr1.wk.at hM0)
    have rx2 := rx.mono fr2.wk
    unfold dset1 at p2
    split at p2
    · rename_i k hc hk
      obtain ⟨l, rfl, hkl, h8⟩ := nkKey_some hk
      cases rx2 with
      | @tup b' xs _ f rsx =>
        obtain ⟨es, N, r⟩ := dic_at hP hw rm2 hM2 hc
        cases r
        have rkey : Rv X.K w2 (.ref b') (.tup l) := .tup f rsx
        have fr3 : Fr w2 (w2.wr n q (NdO X.prog X.w q [(k, b', y)]) (.dic [(k, dy)])) := Fr.wr rm2 hM2 hc rfl
        refine ⟨k, b', N.at_, rfl, Rv.kat rkey hkl, h8, ?_⟩
        refine p2 (w2.wr n q (NdO X.prog X.w q [(k, b', y)]) (.dic [(k, dy)])) (.ref q) rfl (rm2.wr hM2 hc rfl ⟨[(k, b', y)], ?_, ?_⟩) fr3 (.ref (fr3.wk.at hM2))
        · rw [hP, hw]
          exact upd_same
        · exact .cons ⟨rfl, h8, ⟨l, rkey.mono fr3.wk, hkl⟩, ry.mono fr3.wk⟩ .nil
    · exact p2.elim
/-- raise X(e), X with an own __init__ -/
theorem ss_rsx {C : Addr} {x f : Str} {D : SupD} {p pos pos2 : Pos} (hc : X.calm = true) (tk : L2N.Takes X W) (F : SupF X.prog X.K X.mg C f D) (hr : Room 1 X.A) (hb : Binds X.K D.fd [D.n0, D.n1] []) (gx : Gl X x) (gC : X.mg x = some (.ref C)) (he : PE X e1 (eE X Z W a))
    (hdb : (x == ("__debug__" : Str)) = false) (hst : starEach [e1] X.env = (false, eval e1 X.env) :: starEach [] X.env) :
    PS X (.Raise (some (.Call (.Name x p) [e1] [] pos2)) none pos) (eS X Z W (.rsx x f a)) := by
  refine ps_imp (L2N.ps_raise hc tk (LRN.pmk_supN F hr hb gx gC he (fun σ H Q Q' i q => ?_) hdb hst)) fun D' σ H ⟨w, s, hw', rm, rs, p⟩ => ?_
  · obtain ⟨w, s, hw', rm, rs, p⟩ := q
    exact ⟨w, s, hw', rm, rs, p.imp i⟩
  · subst hw'
    simp only [evS] at p
    refine ⟨w, s, rfl, rm, rs, p.split fun d w1 v rm1 fr rv p1 => ?_⟩
    refine kSup_of fun dx hd => ?_
    have fr2 : Fr w1 (w1.put dx (.xd [(f, v)])) := Fr.put rm1 hd
    exact p1 (w1.put dx (.xd [(f, v)])) σ (.ref C) (some dx) rfl (rm1.put hd) fr2 gC (.inr ⟨dx, [(f, v)], by simp, rfl, upd_same, .cons (rv.mono fr2.wk) .nil⟩)
end
end LR

set_option Elab.async false
set_option linter.all false
set_option maxRecDepth 100000
set_option maxHeartbeats 4000000
namespace LR
open PySem PySem.Spec PyProof.Rows L2
theorem strs_of : ∀ {l : List D} {ys : List Str}, toStrs l = some ys → l = ys.map .str
  | [], ys, h => by cases h; rfl
  | .str b :: l, ys, h => by
    obtain ⟨q, hq, rfl⟩ := Option.map_eq_some_iff.mp (show (toStrs l).map (b :: ·) = some ys from h)
    rw [strs_of hq]
    rfl
  | .non :: l, ys, h => by cases h
  | .bl _ :: l, ys, h => by cases h
  | .int _ :: l, ys, h => by cases h
  | .tup _ :: l, ys, h => by cases h
  | .lst _ :: l, ys, h => by cases h
  | .scr _ :: l, ys, h => by cases h
  | .ref _ :: l, ys, h => by cases h
theorem idxF_ok {y : D} : ∀ {l : List D} {i j : Nat}, idxF y l i = some j → i ≤ j ∧ ∃ z, l[j - i]? = some z ∧ eqF z y = true ∧ ∀ k z', k < j - i → l[k]? = some z' → eqF z' y = false
  | [], i, j, h => by cases h
  | z :: l, i, j, h => by
    unfold idxF at h
    split at h
    · rename_i hz
      cases h
      exact ⟨Nat.le_refl _, z, by simp, hz, fun k z' hk => by omega⟩
    · rename_i hz
      obtain ⟨h1, z2, h2, h3, h4⟩ := idxF_ok h
      refine ⟨by omega, z2, ?_, h3, fun k z' hk hk2 => ?_⟩
      · rw [show j - i = (j - (i + 1)) + 1 by omega]
        exact h2
      · cases k with
        | zero => simp at hk2; subst hk2; simpa using hz
        | succ k => exact h4 k z' (by omega) (by simpa using hk2)
theorem idxS_ok {y : Str} : ∀ {l : List Str} {i j : Nat}, idxS y l i = some j → i ≤ j ∧ l[j - i]? = some y ∧ ∀ k, k < j - i → l[k]? ≠ some y
  | [], i, j, h => by cases h
  | z :: l, i, j, h => by
    unfold idxS at h
    split at h
    · rename_i hz
      cases h
      exact ⟨Nat.le_refl _, by simp [hz], fun k hk => by omega⟩
    · rename_i hz
      obtain ⟨h1, h2, h4⟩ := idxS_ok h
      refine ⟨by omega, ?_, fun k hk => ?_⟩
      · rw [show j - i = (j - (i + 1)) + 1 by omega]
        exact h2
      · cases k with
        | zero => simpa using hz
        | succ k => simpa using h4 k (by omega)
section
variable {X : Cx} {Z : Ec} {W : WX} {e e1 e2 : Expr} {a b : E} {pos p : Pos}
theorem Rvs.strs' {K : PySem.W.Frag} {w : Wd} {xs : List V} {l : List D} {ys : List Str} (r : Rvs K w xs l) (h : toStrs l = some ys) : xs = ys.map V.str := by
  rw [strs_of h] at r
  exact r.strs
/-- len(s), str(n) -/
theorem se_slen (hg : Gl X "len") (hm : X.mg "len" = none) (ha : PA X [e] (eA X Z W (.cons a .nil))) (hs : starEach [e] X.env = (false, eval e X.env) :: starEach [] X.env) : PE X (.Call (.Name "len" p) [e] [] pos) (eE X Z W (.su .len a)) :=
  pe_imp (pe_callB call_len_str hg hm boot_len ha (by decide) (by decide) hs rfl) fun σ H Q ⟨w, s, hw, rm, rs, q⟩ => by
    subst hw
    rw [ev] at q
    refine ⟨w, s, rfl, rm, rs, ?_⟩
    rw [← evs1 (f := fun ds m => opt m (match ds with
      | [x] => semSU .len x
      | _ => none))] at q
    refine q.split fun ds w1 vs rm1 fr rvs p1 => ?_
    obtain ⟨d, hd, q⟩ := p1.opt
    match ds, rvs, hd with
    | [x], rvs, hd =>
      obtain ⟨v, rfl, rv⟩ := rvs.one
      have hd : semSU .len x = some d := hd
      cases rv with
      | str z =>
        have hd : (if z.length ≤ lim then some (D.int (z.length : Nat)) else none) = some d := hd
        split at hd
        · rename_i hz
          cases hd
          exact ⟨z, rfl, le_line hz, (Rv.int _).same rm1 q⟩
        · cases hd
      | _ => cases hd
    | [], _, hd => cases hd
    | _ :: _ :: _, _, hd => cases hd
theorem se_sstr (hg : Gl X "str") (hm : X.mg "str" = none) (ha : PA X [e] (eA X Z W (.cons a .nil))) (hs : starEach [e] X.env = (false, eval e X.env) :: starEach [] X.env) : PE X (.Call (.Name "str" p) [e] [] pos) (eE X Z W (.su .str a)) :=
  pe_imp (pe_callTy call_str_int hg hm PyProof.Rows.boot_str ha (by decide) (by decide) hs rfl) fun σ H Q ⟨w, s, hw, rm, rs, q⟩ => by
    subst hw
    rw [ev] at q
    refine ⟨w, s, rfl, rm, rs, ?_⟩
    rw [← evs1 (f := fun ds m => opt m (match ds with
      | [x] => semSU .str x
      | _ => none))] at q
    refine q.split fun ds w1 vs rm1 fr rvs p1 => ?_
    obtain ⟨d, hd, q⟩ := p1.opt
    match ds, rvs, hd with
    | [x], rvs, hd =>
      obtain ⟨v, rfl, rv⟩ := rvs.one
      have hd : semSU .str x = some d := hd
      cases rv with
      | int i =>
        have hd : (if i.natAbs.log2 < 1900 then some (D.str (toString i)) else none) = some d := hd
        split at hd
        · rename_i hz
          cases hd
          exact ⟨i, rfl, by omega, (Rv.str _).same rm1 q⟩
        · cases hd
      | _ => cases hd
    | [], _, hd => cases hd
    | _ :: _ :: _, _, hd => cases hd
/-- s[i] -/
theorem se_six (ha : PE X e1 (eE X Z W a)) (hb : PE X e2 (eE X Z W b)) (hp : PlainIx e2) : PE X (.Subscript e1 e2 pos) (eE X Z W (.so .ix a b)) :=
  pe_imp (pe_ix ix_str ha hb hp) fun σ H Q ⟨w, s, hw, rm, rs, p⟩ => by
    subst hw
    rw [ev] at p
    refine ⟨w, s, rfl, rm, rs, p.split fun dx w1 x rm1 fr1 rx p1 => ?_⟩
    have p1 : Post X.K Z.cn X.mg (Rv X.K) Q (WE W σ) w1 ((ev Z.G Z.cl b s w1.m).bind fun y m => opt m (semSO .ix dx y)) := p1
    refine ⟨w1, s, rfl, rm1, rs.mono fr1.wk, p1.split fun dy w2 y rm2 fr2 ry p2 => ?_⟩
    obtain ⟨d, hd, q⟩ := p2.opt
    cases rx with
    | str z =>
      cases ry with
      | int i =>
        have hd : (if z.length ≤ lim then (atI z.cps.toList i).map fun c => D.str ⟨#[c]⟩ else none) = some d := hd
        split at hd
        · rename_i hz
          obtain ⟨c, hc, rfl⟩ := Option.map_eq_some_iff.mp hd
          exact ⟨z, i, c, rfl, rfl, le_line hz, hc, (Rv.str _).same rm2 q⟩
        · cases hd
      | _ => cases hd
    | _ => cases hd
/-- a method of one text with one argument -/
theorem se_m1 {id : String} {name : Str} {apos : Pos} {r : V → List V → Hp → VK → Prop} {k : SO} (slot : Slot "str" name id) (ty : typeOf (.builtin id) = pure (.type "method_descriptor")) (rule : MtR X id r) (ha : PE X e1 (eE X Z W a)) (hb : PE X e2 (eE X Z W b))
    (h1 : ∀ x, recvOk k x = true → ∃ z, x = .str z)
    (h2 : ∀ (w : Wd) (z : Str) (y d : D) (v : V) (Q : VK), RM X.K Z.cn w → Rv X.K w v y → semSO k (.str z) y = some d → (∀ (w' : Wd) (u : V), w'.m = w.m → RM X.K Z.cn w' → Fr w w' → Rv X.K w' u d → Q u w'.H) → r (.str z) [v] w.H Q)
    (hs : starEach [e2] X.env = [(false, eval e2 X.env)]) (hbase : attributeBase e1 name X.env (eval e1 X.env) = eval e1 X.env) (hline : (apos.endLine == pos.line) = true) :
    PE X (.Call (.Attribute e1 name apos) [e2] [] pos) (eE X Z W (.so k a b)) :=
  pe_imp (pe_m1 slot ty rule ha hb hs hbase hline) fun σ H Q ⟨w, s, hw, rm, rs, p⟩ => by
    subst hw
    rw [ev] at p
    refine ⟨w, s, rfl, rm, rs, p.split fun dx w1 x rm1 fr1 rx p1 => ?_⟩
    by_cases hr : recvOk k dx = true
    · rw [if_pos hr] at p1
      obtain ⟨z, rfl⟩ := h1 dx hr
      cases rx with
      | str _ =>
        refine ⟨⟨z, rfl⟩, w1, s, rfl, rm1, rs.mono fr1.wk, p1.split fun dy w2 y rm2 fr2 ry p2 => ?_⟩
        obtain ⟨d, hd, q⟩ := p2.opt
        exact h2 w2 z dy d y Q rm2 ry hd q
    · rw [if_neg hr] at p1
      exact p1.elim
theorem recv_str {k : SO} (hk : k = .join ∨ k = .split ∨ k = .sw ∨ k = .sidx) (x : D) (h : recvOk k x = true) : ∃ z, x = .str z := by
  rcases hk with rfl | rfl | rfl | rfl <;> cases x <;> first | exact ⟨_, rfl⟩ | (simp [recvOk] at h; done)
theorem se_join {apos : Pos} (ha : PE X e1 (eE X Z W a)) (hb : PE X e2 (eE X Z W b)) (hs : starEach [e2] X.env = [(false, eval e2 X.env)]) (hbase : attributeBase e1 "join" X.env (eval e1 X.env) = eval e1 X.env) (hline : (apos.endLine == pos.line) = true) :
    PE X (.Call (.Attribute e1 "join" apos) [e2] [] pos) (eE X Z W (.so .join a b)) :=
  se_m1 PySem.F.slot_str_join PySem.F.type_str_join mt_join ha hb (recv_str (.inl rfl)) (fun w z y d v Q rm ry hd q => by
    have key : ∀ (p : Addr) (xs : List V) (l : List D), (SqL X.K w.H p xs ∨ SqT X.K w.H p xs) → Rvs X.K w xs l → (toStrs l).bind (joinS z) = some d → v = .ref p → ∃ a p, ∃ ys : List Str, V.str z = .str a ∧ [v] = [.ref p] ∧ (SqL X.K w.H p (ys.map V.str) ∨ SqT X.K w.H p (ys.map V.str)) ∧ (ys.map (·.length)).sum + ys.length * a.length ≤ 16777216 ∧ Q (.str (Txt.join a ys)) w.H := by
      intro p xs l hq rl hj hv
      obtain ⟨ys, hy, hj⟩ := Option.bind_eq_some_iff.mp hj
      have e := rl.strs' hy
      subst e hv
      unfold joinS at hj
      split at hj
      · rename_i hl
        cases hj
        exact ⟨z, p, ys, rfl, rfl, hq, Nat.le_trans hl (by decide), (Rv.str _).same rm q⟩
      · cases hj
    cases ry with
    | lst f rl => exact key _ _ _ (.inl f.sq) rl hd rfl
    | tup f rl => exact key _ _ _ (.inr f.sq) rl hd rfl
    | _ => cases hd) hs hbase hline
theorem Rvs.ofStrs' {K : PySem.W.Frag} {w : Wd} (ys : List Str) : Rvs K w (ys.map V.str) (ys.map D.str) := Rvs.ofStrs ys
theorem se_split {apos : Pos} (ha : PE X e1 (eE X Z W a)) (hb : PE X e2 (eE X Z W b)) (hs : starEach [e2] X.env = [(false, eval e2 X.env)]) (hbase : attributeBase e1 "split" X.env (eval e1 X.env) = eval e1 X.env) (hline : (apos.endLine == pos.line) = true) :
    PE X (.Call (.Attribute e1 "split" apos) [e2] [] pos) (eE X Z W (.so .split a b)) :=
  se_m1 PySem.F.slot_str_split PySem.F.type_str_split mt_split ha hb (recv_str (.inr (.inl rfl))) (fun w z y d v Q rm ry hd q => by
    cases ry with
    | str b' =>
      have hd : (if (b'.length == 0) = false ∧ z.length + 2 ≤ lim then some (D.lst ((Txt.split z b').map .str)) else none) = some d := hd
      split at hd
      · rename_i hl
        cases hd
        exact ⟨z, b', rfl, rfl, hl.1, le_line hl.2, fun p hp => q (w.put p (.lst ((Txt.split z b').map V.str))) (.ref p) rfl (rm.put hp) (Fr.put rm hp) (Rv.newLst rm hp (Rvs.ofStrs _))⟩
      · cases hd
    | _ => cases hd) hs hbase hline
theorem se_sw {apos : Pos} (ha : PE X e1 (eE X Z W a)) (hb : PE X e2 (eE X Z W b)) (hs : starEach [e2] X.env = [(false, eval e2 X.env)]) (hbase : attributeBase e1 "startswith" X.env (eval e1 X.env) = eval e1 X.env) (hline : (apos.endLine == pos.line) = true) :
    PE X (.Call (.Attribute e1 "startswith" apos) [e2] [] pos) (eE X Z W (.so .sw a b)) :=
  se_m1 PySem.F.slot_str_startswith PySem.F.type_str_startswith mt_startswith ha hb (recv_str (.inr (.inr (.inl rfl)))) (fun w z y d v Q rm ry hd q => by
    cases ry with
    | str b' =>
      cases hd
      exact ⟨z, b', rfl, rfl, (Rv.bl _).same rm q⟩
    | _ => cases hd) hs hbase hline
theorem se_sidx {apos : Pos} (ha : PE X e1 (eE X Z W a)) (hb : PE X e2 (eE X Z W b)) (hs : starEach [e2] X.env = [(false, eval e2 X.env)]) (hbase : attributeBase e1 "index" X.env (eval e1 X.env) = eval e1 X.env) (hline : (apos.endLine == pos.line) = true) :
    PE X (.Call (.Attribute e1 "index" apos) [e2] [] pos) (eE X Z W (.so .sidx a b)) :=
  se_m1 PySem.F.slot_str_index PySem.F.type_str_index mt_sindex ha hb (recv_str (.inr (.inr (.inr rfl)))) (fun w z y d v Q rm ry hd q => by
    cases ry with
    | str b' =>
      have hd : (match Builtin.Str.occurrences z b' 0 z.length 1 with
        | i :: _ => some (D.int (i : Nat))
        | [] => none) = some d := hd
      split at hd
      · rename_i i rest ho
        cases hd
        exact ⟨z, b', i, rest, rfl, rfl, ho, (Rv.int _).same rm q⟩
      · cases hd
    | _ => cases hd) hs hbase hline
/-- c in s, c not in s, c one sign -/
theorem sign_one {c z : Str} {b : Bool} (h : signS c z = some b) : ∃ n, c = ⟨#[n]⟩ ∧ b = decide (n ∈ z.cps.toList) := by
  unfold signS at h
  split at h
  · rename_i n hn
    cases h
    refine ⟨n, ?_, rfl⟩
    obtain ⟨cps⟩ := c
    simp only at hn
    congr 1
    apply Array.toList_inj.mp
    rw [hn]
  · cases h
theorem ops_sinn {K : PySem.W.Frag} {cn : Cn} : OpS K cn .sinn (fun x y H Q => ∃ (c : Nat) (z : Str), x = .str ⟨#[c]⟩ ∧ y = .str z ∧ Q (.bl (decide (c ∈ z.cps.toList))) H) := by
  intro w x y dx dy d Q rm rx ry hd q
  cases rx with
  | str c =>
    cases ry with
    | str z =>
      have hd : (signS c z).map D.bl = some d := hd
      obtain ⟨b, hb, rfl⟩ := Option.map_eq_some_iff.mp hd
      obtain ⟨n, rfl, rfl⟩ := sign_one hb
      exact ⟨n, z, rfl, rfl, (Rv.bl _).same rm q⟩
    | _ => cases hd
  | _ => cases hd
theorem ops_snin {K : PySem.W.Frag} {cn : Cn} : OpS K cn .snin (fun x y H Q => ∃ (c : Nat) (z : Str), x = .str ⟨#[c]⟩ ∧ y = .str z ∧ Q (.bl (!decide (c ∈ z.cps.toList))) H) := by
  intro w x y dx dy d Q rm rx ry hd q
  cases rx with
  | str c =>
    cases ry with
    | str z =>
      have hd : ((signS c z).map fun x => D.bl (!x)) = some d := hd
      obtain ⟨b, hb, rfl⟩ := Option.map_eq_some_iff.mp hd
      obtain ⟨n, rfl, rfl⟩ := sign_one hb
      exact ⟨n, z, rfl, rfl, (Rv.bl _).same rm q⟩
    | _ => cases hd
  | _ => cases hd
/-- l.index(x) -/
theorem se_lidx {apos cpos : Pos} (ho : PE X e1 (eE X Z W a)) (ha : PE X e2 (eE X Z W b)) (hbase : attributeBase e1 "index" X.env (eval e1 X.env) = eval e1 X.env)
    (hfew : ((backTo cpos (starEach [e2] X.env)).all (fun x => !x.1) && (backToKw cpos (keywordEach [] X.env)).all (fun x => x.1.isSome)
      && decide ([e2].length + ([] : List Keyword).length + (if ([] : List Keyword).isEmpty then 0 else 1) < 30)) = true)
    (hline : (apos.endLine == cpos.line) = true) (hs : starEach [e2] X.env = (false, eval e2 X.env) :: starEach [] X.env) : PE X (.Call (.Attribute e1 "index" apos) [e2] [] cpos) (eE X Z W (.so .lidx a b)) :=
  pe_imp (pe_bm PySem.F.plainAttrs_list PySem.F.slot_list_index PySem.F.type_list_index mt_index ho (pa_cons ha pa_nil hs) hbase hfew hline hs rfl) fun σ H Q ⟨w, s, hw, rm, rs, p⟩ => by
    subst hw
    rw [ev] at p
    refine ⟨w, s, rfl, rm, rs, p.split fun d w1 v rm1 fr rv p1 => ?_⟩
    by_cases hL : recvOk .lidx d = true
    · rw [if_pos hL] at p1
      cases rv with
      | @lst q xs ds f rvs =>
        refine ⟨.inl ⟨rfl, _, f.sq⟩, w1, s, rfl, rm1, rs.mono fr.wk, p1.split fun y w2 u rm2 fr2 ru p2 => ?_⟩
        obtain ⟨r, hr, q⟩ := p2.opt
        have hr : (if y.flat && ds.all D.flat then (idxF y ds 0).map fun j => D.int (j : Nat) else none) = some r := hr
        split at hr
        · rename_i hf
          simp only [Bool.and_eq_true] at hf
          obtain ⟨j, hj, rfl⟩ := Option.map_eq_some_iff.mp hr
          obtain ⟨_, z, h1, h2, h3⟩ := idxF_ok hj
          rw [Nat.sub_zero] at h1 h3
          have rvs2 := rvs.mono fr2.wk
          obtain ⟨zv, g1, g2⟩ := rvs2.get h1
          refine ⟨_, xs, u, j, zv, rfl, rfl, (f.mono fr2.wk).sq, ru.flat hf.1, rvs2.flats hf.2, g1, ?_, fun k z' hk hz' => ?_, (Rv.int _).same rm2 q⟩
          · rw [g2.eqF ru (List.all_eq_true.mp hf.2 z (List.mem_of_getElem? h1)) hf.1]
            exact h2
          · obtain ⟨dz, e1, e2⟩ := rvs2.getV hz'
            rw [e2.eqF ru (List.all_eq_true.mp hf.2 dz (List.mem_of_getElem? e1)) hf.1]
            exact h3 k dz hk e1
        · cases hr
      | _ => cases hL
    · rw [if_neg hL] at p1; exact p1.elim
/-- T.index(x), T a constant tuple of texts behind the top -/
theorem se_tidx {apos cpos : Pos} {A : Addr} {o : Obj} {x : Str} {pn : Pos} (ho : PE X (.Name x pn) (fun σ H Q => Q (.ref A) H)) (hK : X.K.lookup A = some o) (hoc : o.cls = .type "tuple") (hod : o.dict = none) (hR : ∀ l, Z.G x = some (.tup l) → ∀ w, Rv X.K w (.ref A) (.tup l)) (hG : ∃ l, Z.G x = some (.tup l)) (ha : PE X e2 (eE X Z W b))
    (hfew : ((backTo cpos (starEach [e2] X.env)).all (fun x => !x.1) && (backToKw cpos (keywordEach [] X.env)).all (fun x => x.1.isSome)
      && decide ([e2].length + ([] : List Keyword).length + (if ([] : List Keyword).isEmpty then 0 else 1) < 30)) = true)
    (hline : (apos.endLine == cpos.line) = true) (hs : starEach [e2] X.env = (false, eval e2 X.env) :: starEach [] X.env) : PE X (.Call (.Attribute (.Name x pn) "index" apos) [e2] [] cpos) (eE X Z W (.so .tidx (.g x) b)) :=
  pe_imp (pe_bm PySem.F.plainAttrs_tuple PySem.F.slot_tuple_index PySem.F.type_tuple_index mt_tup_index ho (pa_cons ha pa_nil hs) rfl hfew hline hs rfl) fun σ H Q ⟨w, s, hw, rm, rs, p⟩ => by
    subst hw
    obtain ⟨l, hl⟩ := hG
    rw [ev, ev, hl] at p
    have p : Post X.K Z.cn X.mg (Rv X.K) Q (WE W σ) w ((ev Z.G Z.cl b s w.m).bind fun y m => opt m (semSO .tidx (.tup l) y)) := p
    refine ⟨.inr (.inl ⟨rfl, o, hK, hoc, hod⟩), w, s, rfl, rm, rs, p.split fun y w2 u rm2 fr2 ru p2 => ?_⟩
    obtain ⟨r, hr, q⟩ := p2.opt
    cases ru with
    | str z =>
      have hr : ((toStrs l).bind fun ys => (idxS z ys 0).map fun j => D.int (j : Nat)) = some r := hr
      obtain ⟨ys, hy, hr⟩ := Option.bind_eq_some_iff.mp hr
      obtain ⟨j, hj, rfl⟩ := Option.map_eq_some_iff.mp hr
      obtain ⟨_, h1, h2⟩ := idxS_ok hj
      rw [Nat.sub_zero] at h1 h2
      have rv := hR l hl w2
      cases rv with
      | @tup _ xs _ f rl =>
        have e := rl.strs' hy
        subst e
        exact ⟨A, ys, z, j, rfl, rfl, f.sq, h1, h2, (Rv.int _).same rm2 q⟩
    | _ => cases hr
/-- for c in s -/
theorem serves_str {K : PySem.W.Frag} {cn : Cn} {w : Wd} (z : Str) : Serves K cn (Its z) (z.cps.toList.map fun c => D.str ⟨#[c]⟩) w := by
  refine ⟨fun w' i rm fr hi => ⟨?_, fun v H' h => ?_⟩, fun w' rm fr => ?_⟩
  · rw [List.length_map] at hi
    show i < z.cps.size
    simpa using hi
  · obtain ⟨rfl, c, hc, rfl⟩ := h
    refine ⟨w', .str ⟨#[c]⟩, rfl, rfl, rm, Fr.refl w', ?_, .str _⟩
    rw [List.getElem?_map]
    have : z.cps.toList[i]? = some c := by simpa using hc
    rw [this]
    rfl
  · show z.cps.size ≤ _
    rw [List.length_map]
    simp
theorem si_str {tg : Expr} (ha : PE X e (eE X Z W a)) : PI X tg e (eI X Z W (.str a)) :=
  pi_imp (pi_str ha) fun σ H Q ⟨w, s, hw, rm, rs, p⟩ => by
    subst hw
    rw [evI] at p
    refine ⟨w, s, rfl, rm, rs, p.split fun d w1 v rm1 fr rv p1 => ?_⟩
    obtain ⟨items, hd, q⟩ := p1.opt
    cases rv with
    | str z =>
      have hd : (if z.length ≤ lim then some (z.cps.toList.map fun c => D.str ⟨#[c]⟩) else none) = some items := hd
      split at hd
      · rename_i hl
        cases hd
        exact ⟨z, rfl, post_it rm1 q (serves_str z) (by rw [List.length_map]; exact hl)⟩
      · cases hd
    | _ => cases hd
end
end LR

set_option Elab.async false
set_option linter.all false
set_option maxRecDepth 100000
set_option maxHeartbeats 4000000
namespace LR
open PySem PySem.Spec PyProof.Rows L2
/-! ### small checks on the text -/
def notStar : Expr → Bool
  | .Starred _ _ => false
  | _ => true
theorem star_cons {e : Expr} (h : notStar e = true) (es : List Expr) (env : Env) : starEach (e :: es) env = (false, eval e env) :: starEach es env := by
  cases e <;> first | rfl | (simp [notStar] at h; done)
theorem star_any {pos : Pos} {env : Env} : ∀ {es : List Expr}, es.all notStar = true → (backTo pos (starEach es env)).any (·.1) = false
  | [], _ => rfl
  | e :: es, h => by
    simp only [List.all_cons, Bool.and_eq_true] at h
    rw [star_cons h.1]
    have := star_any (pos := pos) (env := env) h.2
    simpa [backTo] using this
theorem asg_cons {e : Expr} (h : notStar e = true) (es : List Expr) (env : Env) : assignEach (e :: es) env = (false, assign e env) :: assignEach es env := by
  cases e <;> first | rfl | (simp [notStar] at h; done)
theorem asg_len {env : Env} : ∀ {es : List Expr}, es.all notStar = true → (assignEach es env).length = es.length ∧ (assignEach es env).findIdx? (·.1) = none
  | [], _ => ⟨rfl, rfl⟩
  | e :: es, h => by
    simp only [List.all_cons, Bool.and_eq_true] at h
    obtain ⟨h1, h2⟩ := asg_len (env := env) h.2
    rw [asg_cons h.1]
    refine ⟨by simp [h1], ?_⟩
    rw [List.findIdx?_cons, h2]
    rfl
def notSet : Expr → Bool
  | .Set _ _ _ => false
  | _ => true
theorem set_marks {op : CmpOp} {e : Expr} (h : notSet e = true) : behindInMarks op e = false := by
  cases e <;> first | rfl | (simp [notSet] at h; done)
theorem set_fold {e : Expr} {env : Env} (h : notSet e = true) (x : Value) : foldedSetIterable e env x = pure x := by
  cases e <;> first | rfl | (simp [notSet] at h; done)
theorem form_ok {es : List Expr} {env : Env} {pos : Pos} (h : es.all notStar = true) (h30 : es.length < 30) : methodCallForm es.length (backTo pos (starEach es env)) (backToKw pos (keywordEach [] env)) = true := by
  have h1 := star_any (pos := pos) (env := env) h
  unfold methodCallForm
  have h2 : (backTo pos (starEach es env)).all (fun x => !x.1) = true := by
    rw [List.all_eq_true]
    intro x hx
    have := List.any_eq_false.mp h1 x hx
    simpa using this
  rw [h2]
  have h3 : backToKw pos (keywordEach [] env) = [] := rfl
  rw [h3]
  simp
  exact h30
def notComp : Expr → Bool
  | .ListComp _ _ _ _ => false
  | .SetComp _ _ _ _ => false
  | .DictComp _ _ _ _ _ => false
  | _ => true
theorem comp_sw {e : Expr} {t : Option Expr} {l : Nat} {env : Env} (h : notComp e = true) : swapsWith e t l env = pure false := by
  cases e <;> first | rfl | (simp [notComp] at h; done)
def notSlice : Expr → Bool
  | .Slice _ _ _ _ => false
  | _ => true
theorem slice_plain {e : Expr} (h : notSlice e = true) : PlainIx e := by
  intro o i
  cases e <;> first | rfl | (simp [notSlice] at h; done)
theorem noSl {e : Expr} (h : notSlice e = true) : NoSl e := by
  intro o i
  cases e <;> first | rfl | (simp [notSlice] at h; done)
theorem slice_get {e : Expr} (h : notSlice e = true) : ∀ v i, subscripted e true v i = runValue (.builtin "lifetime.subscript" ⟨[v, i], []⟩) := by
  intro v i
  cases e <;> first | rfl | (simp [notSlice] at h; done)
def isName : Expr → Bool
  | .Name _ _ => true
  | _ => false
theorem name_base {o : Expr} {m : Str} {env : Env} (h : isName o = true) : attributeBase o m env (eval o env) = eval o env := by
  cases o <;> first | rfl | (simp [isName] at h; done)
def valTest : Expr → Bool
  | .Name _ _ => true
  | .Call _ _ _ _ => true
  | .Subscript _ _ _ => true
  | .Constant _ _ _ => true
  | _ => false
theorem val_test {e : Expr} {env : Env} (h : valTest e = true) (whole : Sem Value) : isTrue e env whole = (do let v ← whole; standAt e.pos; holding [v] (truthy v)) := by
  cases e <;> first | rfl | (simp [valTest] at h; done)
theorem pw_of {X : Cx} {op : BoolOp} {es : List Expr} {pos : Pos} {t : TT} (h : PT X (.BoolOp op es pos) t) : PW X (.BoolOp op es pos) t :=
  ⟨fun wh pins s σ H Q I q => h.run pins s σ H Q I q⟩
def isTup : Expr → Bool
  | .Tuple _ _ _ => true
  | _ => false
def isBool : Expr → Bool
  | .BoolOp _ _ _ => true
  | _ => false
/-! ### names -/
def gl (sc : Scope) (x : Str) : Bool := match sc.names.lookup x with
  | some .globalImplicit => true
  | _ => false
def vs (sc : Scope) (x : Str) : Bool := match sc.names.lookup x with
  | some .local => true
  | some .cell => true
  | some .free => true
  | _ => false
def lc (sc : Scope) (x : Str) : Bool := match sc.names.lookup x with
  | some .local => true
  | some .cell => true
  | _ => false
def lo (sc : Scope) (x : Str) : Bool := match sc.names.lookup x with
  | some .local => true
  | _ => false
def okN (x : Str) : Bool := !(x == ("__debug__" : Str)) && !(x == ("__classdict__" : Str)) && !(x == ("__name__" : Str))
theorem vs_ok {sc : Scope} {x : Str} (h : vs sc x = true) : Vis sc x := by
  unfold vs at h
  split at h
  · exact .inl (by assumption)
  · exact .inr (.inl (by assumption))
  · exact .inr (.inr (by assumption))
  · cases h
theorem lc_ok {sc : Scope} {x : Str} (h : lc sc x = true) : Loc sc x := by
  unfold lc at h
  split at h
  · exact .inl (by assumption)
  · exact .inr (by assumption)
  · cases h
theorem lo_ok {sc : Scope} {x : Str} (h : lo sc x = true) : sc.names.lookup x = some .local := by
  unfold lo at h
  split at h
  · assumption
  · cases h
theorem gl_ok {sc : Scope} {x : Str} (h : gl sc x = true) : sc.names.lookup x = some .globalImplicit := by
  unfold gl at h
  split at h
  · assumption
  · cases h
theorem okN_ok {x : Str} (h : okN x = true) : (x == ("__debug__" : Str)) = false ∧ (x == ("__classdict__" : Str)) = false ∧ x ≠ "__name__" := by
  unfold okN at h
  simp only [Bool.and_eq_true, Bool.not_eq_true'] at h
  refine ⟨h.1.1, h.1.2, fun e => ?_⟩
  rw [e] at h
  have := h.2
  simp at this
def relS (scope sc : Scope) : Scope := { scope with names := scope.names.map fun (n, k) => if (k == .free && sc.kind == .function && sc.names.lookup n == some .cell) then (n, .cell) else (n, k) }
/-! ### the operators -/
def binOk : O2 → Operator → Bool
  | .add, .Add => true
  | .sub, .Sub => true
  | .mul, .Mult => true
  | .fdiv, .FloorDiv => true
  | .mod, .Mod => true
  | .pow, .Pow => true
  | _, _ => false
def cmpOk : O2 → CmpOp → Bool
  | .eq, .Eq => true
  | .ne, .NotEq => true
  | .lt, .Lt => true
  | .le, .LtE => true
  | .gt, .Gt => true
  | .ge, .GtE => true
  | .inn, .In => true
  | .nin, .NotIn => true
  | .dinn, .In => true
  | .dnin, .NotIn => true
  | .sinn, .In => true
  | .snin, .NotIn => true
  | .is, .Is => true
  | .isn, .IsNot => true
  | _, _ => false
theorem bin_ok {X : Cx} {cn : Cn} {k : O2} {op : Operator} (h : binOk k op = true) : ∃ r, OpR X (binaryOp op) r ∧ OpS X.K cn k r := by
  unfold binOk at h
  split at h
  · exact ⟨_, op_addAll, ops_add⟩
  · exact ⟨_, op_sub, ops_sub⟩
  · exact ⟨_, op_mulAll, ops_mul⟩
  · exact ⟨_, op_fdivW, ops_fdiv⟩
  · exact ⟨_, op_mod, ops_mod⟩
  · exact ⟨_, op_pow, ops_pow⟩
  · cases h
theorem cmp_ok {X : Cx} {cn : Cn} {k : O2} {op : CmpOp} (hP : cn.P = X.prog) (hw : cn.w = X.w) (hu : X.A.units + 64 < cLine) (h : cmpOk k op = true) : ∃ r, OpR X (compareOp op) r ∧ OpS X.K cn k r := by
  unfold cmpOk at h
  split at h
  · exact ⟨_, op_eqD hu, ops_eq⟩
  · exact ⟨_, op_neD hu, ops_ne⟩
  · exact ⟨_, op_ltAll hu, ops_lt⟩
  · exact ⟨_, op_le, ops_le⟩
  · exact ⟨_, op_gt, ops_gt⟩
  · exact ⟨_, op_ge, ops_ge⟩
  · exact ⟨_, op_inAll hu, ops_in⟩
  · exact ⟨_, op_notInAll hu, ops_nin⟩
  · exact ⟨_, op_inN hu, ops_dinn hP hw⟩
  · exact ⟨_, op_notInN hu, ops_dnin hP hw⟩
  · exact ⟨_, op_in_sign, ops_sinn⟩
  · exact ⟨_, op_notIn_sign, ops_snin⟩
  · exact ⟨_, op_isAll, ops_is⟩
  · exact ⟨_, op_isnAll, ops_isn⟩
  · cases h
/-! ### the check of the expressions -/
def soName : SO → Str → Bool
  | .join, m => decide (m = "join")
  | .split, m => decide (m = "split")
  | .sw, m => decide (m = "startswith")
  | .lidx, m => decide (m = "index")
  | .sidx, m => decide (m = "index")
  | _, _ => false
def isG : E → Str → Bool
  | .g x, y => decide (x = y)
  | _, _ => false
theorem isG_ok {a : E} {y : Str} (h : isG a y = true) : a = .g y := by
  cases a <;> first | (simp [isG] at h; done) | skip
  unfold isG at h
  rw [of_decide_eq_true h]
def conTup (Γ : Gam) (x : Str) : Bool := match Γ.con x with
  | some (.tup _) => true
  | _ => false
theorem conTup_ok {Γ : Gam} {x : Str} (h : conTup Γ x = true) : ∃ l, Γ.con x = some (.tup l) := by
  unfold conTup at h
  split at h
  · exact ⟨_, by assumption⟩
  · cases h
def notCall : Expr → Bool
  | .Call _ _ _ _ => false
  | _ => true
theorem nc_base {o : Expr} {m : Str} {env : Env} (h : notCall o = true) : attributeBase o m env (eval o env) = eval o env := by
  cases o <;> first | rfl | (simp [notCall] at h; done)
def biName : Bi → Str
  | .len => "len"
  | .abs => "abs"
  | .int => "int"
  | .bool => "bool"
  | .min => "min"
  | .max => "max"
  | .sum => "sum"
  | .all => "all"
  | .any => "any"
  | .tuple => "tuple"
def tyOk (T : String) (x : Str) : Bool := (T == "int" && decide (x = "int")) || (T == "bool" && decide (x = "bool")) || (T == "str" && decide (x = "str")) || (T == "tuple" && decide (x = "tuple")) || (T == "list" && decide (x = "list"))
def bTail (op : BoolOp) (e : Expr) (rest : List Expr) (pos : Pos) : Expr := match rest with
  | [] => e
  | _ => .BoolOp op (e :: rest) pos
def nmAt (N : List Str) (i : Nat) (x : Str) : Bool := match N[i]? with
  | some y => decide (y = x)
  | none => false
theorem nmAt_ok {N : List Str} {i : Nat} {x : Str} (h : nmAt N i x = true) : N[i]? = some x := by
  unfold nmAt at h
  split at h
  · rename_i y e
    rw [e, of_decide_eq_true h]
  · cases h
def tgNames (N : List Str) (sc : Scope) (own : Str → Bool) : List Nat → List Expr → Bool
  | [], [] => true
  | i :: is, .Name x _ :: es => nmAt N i x && lc sc x && (lo sc x || own x) && tgNames N sc own is es
  | _, _ => false
def chkTg (N : List Str) (sc : Scope) (own : Str → Bool) (tp : Bool) (vs : List Nat) (tg : Expr) : Bool := match tp, vs, tg with
  | false, [i], .Name x _ => nmAt N i x && lc sc x && (lo sc x || own x)
  | true, vs, .Tuple es _ _ => tgNames N sc own vs es
  | _, _, _ => false
def ownOf (N : List Str) (vs : List Nat) : List (Str × Nat) := vs.map fun i => (N.getD i "", i)
def mthOk (Γ : Gam) (C m key : Str) : Bool := Γ.mth.any fun t => decide (t = (C, m, key))
def fldOk (Γ : Gam) (C x : Str) : Bool := Γ.fls.any fun t => decide (t = (C, x))
def keyB (Γ : Gam) (f : Str) : Bool := (Γ.mth.any fun t => decide (t.2.2 = f)) || decide (f = "law") || (Γ.prp.any fun t => decide (t.2.2 = f)) || (Γ.mks.any fun t => decide (t.2 = f))
def prpOk (Γ : Gam) (C x key : Str) : Bool := Γ.prp.any fun t => decide (t = (C, x, key))
def mksOk (Γ : Gam) (C key : Str) : Bool := Γ.mks.any fun t => decide (t = (C, key))
def opOk (Γ : Gam) (C : Str) : Bool := Γ.opc.any fun t => decide (t = C)
def kOk (Γ : Gam) (key : Str) (k : Nat) : Bool := match Γ.fn key with
  | some F => decide (F.k = k)
  | none => false
theorem kOk_ok {Γ : Gam} {key : Str} {k : Nat} (h : kOk Γ key k = true) : ∃ F, Γ.fn key = some F ∧ F.k = k := by
  unfold kOk at h
  split at h
  · exact ⟨_, by assumption, of_decide_eq_true h⟩
  · cases h
theorem prpOk_mem {Γ : Gam} {C x key : Str} (h : prpOk Γ C x key = true) : (C, x, key) ∈ Γ.prp := by
  obtain ⟨t, ht, e⟩ := List.any_eq_true.mp h
  rw [← of_decide_eq_true e]
  exact ht
theorem mksOk_mem {Γ : Gam} {C key : Str} (h : mksOk Γ C key = true) : (C, key) ∈ Γ.mks := by
  obtain ⟨t, ht, e⟩ := List.any_eq_true.mp h
  rw [← of_decide_eq_true e]
  exact ht
theorem opOk_mem {Γ : Gam} {C : Str} (h : opOk Γ C = true) : C ∈ Γ.opc := by
  obtain ⟨t, ht, e⟩ := List.any_eq_true.mp h
  rw [← of_decide_eq_true e]
  exact ht
/-- the scope that may hold lambdas: the law's own -/
def lamSc (sc : Scope) : Bool := decide (sc.names.lookup ("_law_script" : Str) = some NameKind.local)
def blkCL (N : List Str) (sc scope : Scope) (own : List (Str × Nat)) : Bool := blkC N sc scope own && !lamSc (relS scope sc)
theorem blkCL_1 {N : List Str} {sc scope : Scope} {own : List (Str × Nat)} (h : blkCL N sc scope own = true) : blkC N sc scope own = true := by
  unfold blkCL at h
  simp only [Bool.and_eq_true] at h
  exact h.1
theorem blkCL_2 {N : List Str} {sc scope : Scope} {own : List (Str × Nat)} (h : blkCL N sc scope own = true) : lamSc (relS scope sc) = false := by
  unfold blkCL at h
  simp only [Bool.and_eq_true, Bool.not_eq_true'] at h
  exact h.2
mutual
def eqDb : D → D → Bool
  | .non, .non => true
  | .bl a, .bl b => a == b
  | .int a, .int b => decide (a = b)
  | .str a, .str b => decide (a = b)
  | .ref a, .ref b => decide (a = b)
  | _, _ => false
end
theorem eqDb_ok {a b : D} (h : eqDb a b = true) : a = b := by
  cases a <;> cases b <;> simp [eqDb] at h <;> first | rfl | (rw [h])
def eqTb : List (Str × D) → List (Str × D) → Bool
  | [], [] => true
  | (x, a) :: l, (y, b) :: r => decide (x = y) && eqDb a b && eqTb l r
  | _, _ => false
theorem eqTb_ok : ∀ {l r : List (Str × D)}, eqTb l r = true → l = r
  | [], [], _ => rfl
  | (x, a) :: l, (y, b) :: r, h => by
    simp only [eqTb, Bool.and_eq_true, decide_eq_true_eq] at h
    rw [h.1.1, eqDb_ok h.1.2, eqTb_ok h.2]
  | [], _ :: _, h => by simp [eqTb] at h
  | _ :: _, [], h => by simp [eqTb] at h
def lmfOk (Γ : Gam) (g : Str) (okv : D) (tb : List (Str × D)) : Bool := Γ.lmf.any fun t => decide (t.1 = g) && eqDb t.2.1 okv && eqTb t.2.2 tb
theorem lmfOk_mem {Γ : Gam} {g : Str} {okv : D} {tb : List (Str × D)} (h : lmfOk Γ g okv tb = true) : (g, okv, tb) ∈ Γ.lmf := by
  unfold lmfOk at h
  obtain ⟨⟨x, a, l⟩, hm, e⟩ := List.any_eq_true.mp h
  simp only [Bool.and_eq_true, decide_eq_true_eq] at e
  obtain ⟨⟨rfl, e2⟩, e3⟩ := e
  rw [← eqDb_ok e2, ← eqTb_ok e3]
  exact hm
def noPar : Arguments → Bool
  | ⟨[], [], none, [], [], none, []⟩ => true
  | _ => false
theorem mthOk_mem {Γ : Gam} {C m key : Str} (h : mthOk Γ C m key = true) : (C, m, key) ∈ Γ.mth := by
  obtain ⟨t, ht, e⟩ := List.any_eq_true.mp h
  rw [← of_decide_eq_true e]
  exact ht
theorem fldOk_mem {Γ : Gam} {C x : Str} (h : fldOk Γ C x = true) : (C, x) ∈ Γ.fls := by
  obtain ⟨t, ht, e⟩ := List.any_eq_true.mp h
  rw [← of_decide_eq_true e]
  exact ht
section
variable (Γ : Gam) (Nm : List Str)
mutual
def chkE : Nat → Scope → E → Expr → Bool
  | 0, _, _, _ => false
  | n + 1, sc, a, e => match a with
    | .c (.int i) => (match e with
      | .Constant (.int j) _ _ => decide (i = j)
      | _ => false)
    | .c (.bl i) => (match e with
      | .Constant (.bool j) _ _ => decide (i = j)
      | _ => false)
    | .c (.str i) => (match e with
      | .Constant (.str j) _ _ => decide (i = j)
      | _ => false)
    | .c .non => (match e with
      | .Constant .none _ _ => true
      | _ => false)
    | .v i => (match e with
      | .Name x _ => nmAt Nm i x && LR.vs sc x && okN x
      | _ => false)
    | .g x => (match e with
      | .Name y _ => decide (x = y) && gl sc x && okN x && (Γ.con x).isSome
      | _ => false)
    | .o1 .neg a => (match e with
      | .UnaryOp .USub e _ => chkE n sc a e
      | _ => false)
    | .o1 .rev a => (match e with
      | .Subscript e1 (.Slice none none (some (.UnaryOp .USub (.Constant (.int i) _ _) _)) _) _ => decide (i = 1) && chkE n sc a e1
      | _ => false)
    | .o2 k a b => (match e with
      | .BinOp e1 op e2 _ => binOk k op && chkE n sc a e1 && chkE n sc b e2
      | .Compare e1 [op] [e2] _ => cmpOk k op && notSet e2 && chkE n sc a e1 && chkE n sc b e2
      | _ => false)
    | .ch k k' a b c => (match e with
      | .Compare e1 [op, op'] [e2, e3] _ => cmpOk k op && cmpOk k' op' && notSet e3 && chkE n sc a e1 && chkE n sc b e2 && chkE n sc c e3
      | _ => false)
    | .idx a b => (match e with
      | .Subscript e1 e2 _ => notSlice e2 && chkE n sc a e1 && chkE n sc b e2
      | _ => false)
    | .no a => (match e with
      | .UnaryOp .Not e _ => chkE n sc a e
      | _ => false)
    | .and a b => (match e with
      | .BoolOp .And (e1 :: e2 :: rest) pos => chkE n sc a e1 && chkE n sc b (bTail .And e2 rest pos)
      | _ => false)
    | .or a b => (match e with
      | .BoolOp .Or (e1 :: e2 :: rest) pos => chkE n sc a e1 && chkE n sc b (bTail .Or e2 rest pos)
      | _ => false)
    | .ite t a b => (match e with
      | .IfExp e1 e2 e3 _ => chkT n sc t e1 && chkE n sc a e2 && chkE n sc b e3
      | _ => false)
    | .tup as => (match e with
      | .Tuple es _ _ => decide (as.len ≤ 1000) && chkA n sc as es
      | _ => false)
    | .nl _ m => chkN n sc m e
    | .sl a l h => (match e with
      | .Subscript e1 (.Slice lo hi none _) _ => chkE n sc a e1 && chkO n sc l lo && chkO n sc h hi
      | _ => false)
    | .call f as => (match e with
      | .Call (.Name x _) (e1 :: es) [] _ => decide (f = x) && gl sc f && okN f && !keyB Γ f && (e1 :: es).all notStar && (match Γ.fn f with
        | some F => decide (as.len = F.k)
        | none => false) && chkA n sc as (e1 :: es)
      | _ => false)
    | .bi b as => (match e with
      | .Call (.Name x _) (e1 :: es) [] _ => decide (x = biName b) && gl sc x && (e1 :: es).all notStar && chkA n sc as (e1 :: es)
      | _ => false)
    | .isi T a => (match e with
      | .Call (.Name x _) [e1, .Name y _] [] _ => decide (x = "isinstance") && gl sc x && tyOk T y && gl sc y && notStar e1 && chkE n sc a e1
      | _ => false)
    | .su k a => (match e with
      | .Call (.Name x _) [e1] [] _ => (match k with
        | .len => decide (x = "len")
        | .str => decide (x = "str")) && gl sc x && notStar e1 && chkA n sc (.cons a .nil) [e1]
      | _ => false)
    | .so k a b => (match k with
      | .ix => (match e with
        | .Subscript e1 e2 _ => notSlice e2 && chkE n sc a e1 && chkE n sc b e2
        | _ => false)
      | .tidx => (match e with
        | .Call (.Attribute (.Name y _) m ap) [e2] [] cp => decide (m = "index") && gl sc y && okN y && isG a y && conTup Γ y && (ap.endLine == cp.line) && notStar e2 && chkE n sc b e2
        | _ => false)
      | k => (match e with
        | .Call (.Attribute e1 m ap) [e2] [] cp => soName k m && notCall e1 && (ap.endLine == cp.line) && notStar e2 && chkE n sc a e1 && chkE n sc b e2
        | _ => false))
    | .dn1 a b => (match e with
      | .Dict [some e1] [e2] _ => chkE n sc a e1 && chkE n sc b e2
      | _ => false)
    | .dnw => (match e with
      | .Dict [] [] _ => true
      | _ => false)
    | .tr1 a => (match e with
      | .Call (.Name x _) [.Call (.Name y _) [e1] [] _] [] _ => decide (x = "tuple") && gl sc x && decide (y = "range") && gl sc y && notStar e1 && chkE n sc a e1
      | _ => false)
    | .tr2 a b => (match e with
      | .Call (.Name x _) [.Call (.Name y _) [e1, e2] [] _] [] _ => decide (x = "tuple") && gl sc x && decide (y = "range") && gl sc y && notStar e1 && notStar e2 && chkE n sc a e1 && chkE n sc b e2
      | _ => false)
    | .cnt o a => (match e with
      | .Call (.Attribute e1 m ap) [e2] [] cp => decide (m = "count") && isName e1 && (ap.endLine == cp.line) && notStar e2 && chkE n sc o e1 && chkE n sc a e2
      | _ => false)
    | .dget a b => (match e with
      | .Subscript e1 e2 _ => notSlice e2 && chkE n sc a e1 && chkE n sc b e2
      | _ => false)
    | .fld a C x => (match e with
      | .Attribute e1 y _ => decide (x = y) && isName e1 && fldOk Γ C x && chkE n sc a e1
      | _ => false)
    | .mk C key as => (match e with
      | .Call (.Name x _) es [] _ => (decide (C = x) && gl sc C && okN C && es.all notStar && mthOk Γ C "__init__" key && (match Γ.fn key with
        | some F => decide (as.len + 1 = F.k)
        | none => false) && chkA n sc as es) || (decide (C = x) && gl sc C && okN C && mksOk Γ C key && kOk Γ key 3 && (match as, es with
          | .cons a (.cons (.tup as) .nil), e1 :: es => (e1 :: es).all notStar && decide (as.len ≤ 1000) && chkA n sc (.cons a as) (e1 :: es)
          | .cons a (.cons (.bi .tuple (.cons b .nil)) .nil), [e1, .Starred e2 _] => notStar e1 && chkE n sc a e1 && chkE n sc b e2
          | _, _ => false))
      | _ => false)
    | .oo1 .len C key a => (match e with
      | .Call (.Name x _) [e1] [] _ => decide (x = "len") && gl sc x && notStar e1 && opOk Γ C && mthOk Γ C "__len__" key && kOk Γ key 1 && chkE n sc a e1
      | _ => false)
    | .oo1 .tru C key a => (match e with
      | .Call (.Name x _) [e1] [] _ => decide (x = "bool") && gl sc x && notStar e1 && opOk Γ C && mthOk Γ C "__bool__" key && kOk Γ key 1 && chkE n sc a e1
      | _ => false)
    | .oo1 .neg C key a => (match e with
      | .UnaryOp .USub e1 _ => mthOk Γ C "__neg__" key && kOk Γ key 1 && chkE n sc a e1
      | _ => false)
    | .oo2 k C key a b => (match e with
      | .Subscript e1 e2 _ => (match k with
        | .get => true
        | _ => false) && notSlice e2 && opOk Γ C && mthOk Γ C "__getitem__" key && kOk Γ key 2 && chkE n sc a e1 && chkE n sc b e2
      | .Compare e1 [op] [e2] _ => k2Op k op && notSet e2 && opOk Γ C && mthOk Γ C (k2Nm k) key && kOk Γ key 2 && chkE n sc a e1 && chkE n sc b e2
      | _ => false)
    | .iso C a => (match e with
      | .Call (.Name x _) [e1, .Name y _] [] _ => decide (x = "isinstance") && gl sc x && decide (C = y) && gl sc C && okN C && opOk Γ C && notStar e1 && chkE n sc a e1
      | _ => false)
    | .mc o C m key as => (match e with
      | .Call (.Attribute e1 y ap) (e2 :: es) [] cp => decide (m = y) && isName e1 && (ap.endLine == cp.line) && (e2 :: es).all notStar && decide ((e2 :: es).length < 30) && mthOk Γ C m key && (match Γ.fn key with
        | some F => decide (as.len + 1 = F.k)
        | none => false) && chkE n sc o e1 && chkA n sc as (e2 :: es)
      | _ => false)
    | .prp o C m key => (match e with
      | .Attribute e1 y _ => decide (m = y) && isName e1 && prpOk Γ C m key && kOk Γ key 1 && chkE n sc o e1
      | _ => false)
    | .lamc f b okv tb => (match e with
      | .Call (.Name x _) [.Lambda params body scope _] [] _ => decide (f = x) && gl sc x && okN x && lamSc sc && Nm.contains "_law_k" && (Γ.fn "↓").isNone && lmfOk Γ f okv tb && LamX.lamSB sc scope && noPar params && chkE n scope b body
      | _ => false)
    | .lset a => (match e with
      | .Call (.Name x _) [.Call (.Name y _) [e1] [] _] [] _ => decide (x = "len") && gl sc x && decide (y = "set") && gl sc y && notStar e1 && chkE n sc a e1
      | _ => false)
    | .app o a => (match e with
      | .Call (.Attribute e1 m ap) [e2] [] cp => decide (m = "append") && isName e1 && (ap.endLine == cp.line) && notStar e2 && chkE n sc o e1 && chkE n sc a e2
      | _ => false)
    | _ => false
def chkO : Nat → Scope → E → Option Expr → Bool
  | 0, _, _, _ => false
  | n + 1, sc, a, e => match e with
    | none => (match a with
      | .nop => true
      | _ => false)
    | some e => !a.isNop && chkE n sc a e
def chkT : Nat → Scope → E → Expr → Bool
  | 0, _, _, _ => false
  | n + 1, sc, a, e => match e with
    | .UnaryOp .Not e1 _ => (match a with
      | .no a => chkT n sc a e1
      | _ => false)
    | .BoolOp .And (e1 :: e2 :: rest) pos => (match a with
      | .and a b => chkT n sc a e1 && chkT n sc b (bTail .And e2 rest pos)
      | _ => false)
    | .BoolOp .Or (e1 :: e2 :: rest) pos => (match a with
      | .or a b => chkT n sc a e1 && chkT n sc b (bTail .Or e2 rest pos)
      | _ => false)
    | .Compare e1 [op] [e2] _ => (match a with
      | .o2 k a b => cmpOk k op && notSet e2 && chkE n sc a e1 && chkE n sc b e2
      | .oo2 k C key a b => k2Op k op && notSet e2 && opOk Γ C && mthOk Γ C (k2Nm k) key && kOk Γ key 2 && chkE n sc a e1 && chkE n sc b e2
      | _ => false)
    | .Compare e1 [op, op'] [e2, e3] _ => (match a with
      | .ch k k' a b c => cmpOk k op && cmpOk k' op' && notSet e3 && chkE n sc a e1 && chkE n sc b e2 && chkE n sc c e3
      | _ => false)
    | e => valTest e && chkE n sc a e
def chkA : Nat → Scope → Es → List Expr → Bool
  | 0, _, _, _ => false
  | n + 1, sc, as, es => match as, es with
    | .nil, [] => true
    | .cons a as, e :: es => notStar e && chkE n sc a e && chkA n sc as es
    | _, _ => false
def chkN : Nat → Scope → N → Expr → Bool
  | 0, _, _, _ => false
  | n + 1, sc, m, e => match m with
    | .disp as => (match e with
      | .List es _ => decide (as.len ≤ 1000) && chkA n sc as es
      | _ => false)
    | .comp a tp vs it c => (match e with
      | .ListComp e1 [⟨tg, iter, ifs, 0⟩] scope _ => chkI n sc it tg iter && blkCL Nm sc scope (ownOf Nm vs) && chkTg Nm (relS scope sc) (fun x => scope.names.lookup x == some .cell) tp vs tg && notSet iter && chkE n (relS scope sc) a e1 && (match ifs with
        | [] => c.isNop
        | [t] => !c.isNop && chkT n (relS scope sc) c t
        | _ => false)
      | _ => false)
    | .cp a => (match e with
      | .Call (.Name x _) [e1] [] _ => decide (x = "list") && gl sc x && notStar e1 && chkE n sc a e1
      | _ => false)
    | .srt a => (match e with
      | .Call (.Name x _) [e1] [] _ => decide (x = "sorted") && gl sc x && notStar e1 && chkE n sc a e1
      | _ => false)
    | .rng (.cons a .nil) => (match e with
      | .Call (.Name x _) [.Call (.Name y _) [e1] [] _] [] _ => decide (x = "list") && gl sc x && decide (y = "range") && gl sc y && notStar e1 && chkE n sc a e1
      | _ => false)
    | .zp a b => (match e with
      | .Call (.Name x _) [.Call (.Name y _) [e1, e2] [] _] [] _ => decide (x = "list") && gl sc x && decide (y = "zip") && gl sc y && notStar e1 && notStar e2 && chkA n sc (.cons a (.cons b .nil)) [e1, e2]
      | _ => false)
    | .sl a l h => (match e with
      | .Subscript e1 (.Slice lo hi none _) _ => chkE n sc a e1 && chkO n sc l lo && chkO n sc h hi
      | _ => false)
    | .sl2 a l => (match e with
      | .Subscript e1 (.Slice (some lo) none (some (.Constant (.int i) _ _)) _) _ => decide (i = 2) && chkE n sc a e1 && chkE n sc l lo
      | _ => false)
    | .srd a => (match e with
      | .Call (.Name x _) [e1] [] _ => decide (x = "sorted") && gl sc x && notStar e1 && chkE n sc a e1
      | _ => false)
    | _ => false
def chkI : Nat → Scope → It → Expr → Expr → Bool
  | 0, _, _, _, _ => false
  | n + 1, sc, it, tg, e => match it with
    | .seq a => chkE n sc a e
    | .rng as => (match e with
      | .Call (.Name x _) [e1] [] _ => decide (x = "range") && gl sc x && decide (as.len = 1) && notStar e1 && chkA n sc as [e1]
      | .Call (.Name x _) [e1, e2] [] _ => decide (x = "range") && gl sc x && decide (as.len = 2) && notStar e1 && notStar e2 && chkA n sc as [e1, e2]
      | .Call (.Name x _) [e1, e2, e3] [] _ => decide (x = "range") && gl sc x && decide (as.len = 3) && notStar e1 && notStar e2 && notStar e3 && chkA n sc as [e1, e2, e3]
      | _ => false)
    | .zip as => (match e with
      | .Call (.Name x _) [e1, e2] [] _ => isTup tg && decide (x = "zip") && gl sc x && notStar e1 && notStar e2 && decide (as.len = 2) && chkA n sc as [e1, e2]
      | .Call (.Name x _) [e1, e2, e3] [] _ => isTup tg && decide (x = "zip") && gl sc x && notStar e1 && notStar e2 && notStar e3 && decide (as.len = 3) && chkA n sc as [e1, e2, e3]
      | _ => false)
    | .str a => chkE n sc a e
    | .enum a => (match e with
      | .Call (.Name x _) [e1] [] _ => isTup tg && decide (x = "enumerate") && gl sc x && notStar e1 && chkA n sc (.cons a .nil) [e1]
      | _ => false)
end
end
/-! ### what a context gives -/
structure Ctx where
  P : Program
  w : World
  K : PySem.W.Frag
  mg : Str → Option Value
  base : Heap
  ad : Str → Addr
  fl : Bool := false
  T : List (Addr × Str) := []
/-- the levels: of functions, of methods, of a frame; fl: every __init__ calls nothing -/
def Ctx.lg (C : Ctx) (n : Nat) : Nat := if C.fl = true then (if n = 0 then 0 else if n = 1 then 2 else n + 2) else 3 * n
def Ctx.lm (C : Ctx) (m : Str) (n : Nat) : Nat := if C.fl = true then (if m = "__init__" then (if n = 0 then 0 else 2) else C.lg n) else 3 * n
def Ctx.lh (C : Ctx) (n : Nat) : Nat := C.lg (n + 1) - 1
theorem Ctx.lh_succ (C : Ctx) (n : Nat) : C.lh n + 1 = C.lg (n + 1) := by
  unfold Ctx.lh Ctx.lg
  cases C.fl
  · simp only [Bool.false_eq_true, if_false]
    omega
  · simp only [if_true]
    by_cases h : n = 0
    · subst h; rfl
    · rw [if_neg (by omega), if_neg (by omega)]
      omega
theorem Ctx.lg_le (C : Ctx) (n : Nat) : C.lg n ≤ C.lh n := by
  unfold Ctx.lh Ctx.lg
  cases C.fl
  · simp only [Bool.false_eq_true, if_false]
    omega
  · simp only [if_true]
    by_cases h : n = 0
    · subst h; decide
    · by_cases h1 : n = 1
      · subst h1; decide
      · rw [if_neg h, if_neg h1, if_neg (by omega), if_neg (by omega)]
        omega
theorem Ctx.lh_two (C : Ctx) (n : Nat) : C.lh n + 2 ≤ C.lh (n + 2) := by
  unfold Ctx.lh Ctx.lg
  cases C.fl
  · simp only [Bool.false_eq_true, if_false]
    omega
  · simp only [if_true]
    by_cases h : n = 0
    · subst h; decide
    · rw [if_neg (by omega), if_neg (by omega), if_neg (by omega), if_neg (by omega)]
      omega
theorem Ctx.lm_le (C : Ctx) (m : Str) (n : Nat) : C.lm m n ≤ C.lg n := by
  unfold Ctx.lm Ctx.lg
  cases C.fl
  · simp
  · simp only [if_true]
    by_cases h : n = 0
    · subst h; split <;> simp
    · by_cases h1 : n = 1
      · subst h1; split <;> simp
      · rw [if_neg h, if_neg h, if_neg h1]
        split <;> omega
theorem Ctx.lh1_le (C : Ctx) (n : Nat) (h : C.fl = false) : C.lg n + 1 ≤ C.lh n := by
  unfold Ctx.lh Ctx.lg
  rw [h]
  simp only [Bool.false_eq_true, if_false]
  omega
theorem Ctx.lm2_le (C : Ctx) (m : Str) (n : Nat) (h : C.fl = false) : C.lm m n + 2 ≤ C.lh n := by
  unfold Ctx.lm Ctx.lh Ctx.lg
  rw [h]
  simp only [Bool.false_eq_true, if_false]
  omega
theorem Ctx.lm1_le (C : Ctx) (m : Str) (n : Nat) (h : C.fl = false) : C.lm m n + 1 ≤ C.lh n := by
  have := C.lm2_le m n h
  omega
theorem Ctx.lm_init (C : Ctx) (n : Nat) : C.lm "__init__" n + 1 ≤ C.lh n := by
  unfold Ctx.lm Ctx.lh Ctx.lg
  cases C.fl
  · simp only [Bool.false_eq_true, if_false]
    omega
  · simp only [if_true]
    by_cases h : n = 0
    · subst h; decide
    · rw [if_neg h, if_neg (by omega), if_neg (by omega)]
      omega
def Ctx.cn (C : Ctx) : Cn := ⟨C.ad, C.P, C.w, C.T⟩
def bnames : List Str := ["len", "abs", "int", "bool", "min", "max", "sum", "all", "any", "tuple", "list", "sorted", "range", "zip", "enumerate", "isinstance", "set", "str", "ValueError"]
/-! ### exception classes -/
def excBm : List Value := [.type "ValueError", .type "Exception", .type "BaseException", .type "object"]
/-- what an exception class behind the top says: its own address, which classes it is of -/
structure XcH (K : PySem.W.Frag) (mg : Str → Option Value) (y : Str) (l : List (Str × Bool)) (C : Addr) : Prop where
  g : mg y = some (.ref C)
  cc : ExcC K C
  of : ∀ c b, (c, b) ∈ l → ∃ C' : Addr, mg c = some (.ref C') ∧ PySem.W.kitOne K (.ref C) (.ref C') = some b ∧ PySem.W.exmOne K (.ref C) (.ref C') = some b
/-- .. and one without an own __init__ -/
structure XcF (K : PySem.W.Frag) (mg : Str → Option Value) (y : Str) (l : List (Str × Bool)) (C : Addr) : Prop extends XcH K mg y l C where
  kp : PySem.W.keepIn K (.ref C) = true
  ex : PySem.W.excIn K C excBm "ValueError.__new__" = true
  sb : PySem.W.subIn K (.ref C) (.type "BaseException") = some true
  ty : PySem.W.typeIn K (.ref C) = some (.type "type")
def tabX (Γ : Gam) (z : Str) : Option (List (Str × Bool)) := match tab z Γ.exc with
  | some l => some l
  | none => (tab z Γ.xsi).map (·.2)
def HExt (H H' : Hp) : Prop := ∀ a o, H a = some o → H' a = some o
theorem HExt.refl (H : Hp) : HExt H H := fun _ _ h => h
def RvC (K : PySem.W.Frag) (v : V) (d : D) : Prop := ∀ w, Rv K w v d
/-- what a def makes of the lambda that it calls -/
def TTl (C : Ctx) (okv : D) (tb : List (Str × D)) : (XK → Hp → VK → Prop) → Hp → VK → Prop := fun tl H Q => ∃ E : XK, tl E H (fun _ H' => ∃ o, okOf okv = some o ∧ ∀ v, RvC C.K v o → Q v H') ∧
  ∀ cls d H', E cls d H' → XDH d H' ∧ ∃ y dd, tab y tb = some dd ∧ C.mg y = some cls ∧ ∀ v H'', RvC C.K v dd → HExt H' H'' → Q v H''
/-- a def that calls what it gets -/
def LmF (C : Ctx) (g : Str) (okv : D) (tb : List (Str × D)) : Prop := ∃ (ga : Addr) (a : Str) (pg : Arguments) (bg : List Stmt) (sg : Scope) (dV kV doc pm cdv ct oc : Value) (an od : Option Addr) (osl : Array (Option Value)) (Ng : List Str),
  C.mg g = some (.ref ga) ∧ PySem.W.keepIn C.K (.ref ga) = true ∧ C.K.lookup ga = some ⟨oc, od, .func (PySem.W.fnOf g g pg bg sg dV kV doc pm an cdv ct), osl⟩ ∧ PySem.W.codeIn C.K cdv g = true ∧ L2.Binds C.K (PySem.W.fnOf g g pg bg sg dV kV doc pm an cdv ct) [a] [] ∧
  FnScope Ng [a] sg ∧ Ng[0]? = some a ∧ Vis sg a ∧ okN a = true ∧ (∀ y d, tab y tb = some d → ∃ v, RvC C.K v d) ∧
  ∀ (X : Cx) (q : Str), X.prog = C.P → X.w = C.w → X.K = C.K → X.mg = C.mg → LRN.GivesTo X Ng g sg ga cdv bg a q (TTl C okv tb)
structure Know (C : Ctx) (Γ : Gam) (n : Nat) : Prop where
  fn : ∀ f F, keyB Γ f = false → Γ.fn f = some F → ∃ ad fd ps, C.mg f = some (.ref ad) ∧ PySem.W.keepIn C.K (.ref ad) = true ∧ Binds C.K fd ps [] ∧ FnOk C.P C.w C.K C.mg C.base (L2N.CX C.P C.w) (C.lg n) ad fd ps (spC C.K C.cn C.mg (callN Γ n f) F.k)
  mth : ∀ c m key F, (c, m, key) ∈ Γ.mth → Γ.fn key = some F → ∃ ad fd ps, Cls C.K (C.ad c) ∧ Meth C.K (C.ad c) m ad ∧ (m = "__init__" → C.mg c = some (.ref (C.ad c)) ∧ Mk C.K (C.ad c) ad) ∧ Binds C.K fd ps [] ∧ FnOk C.P C.w C.K C.mg C.base (L2N.CX C.P C.w) (C.lm m n) ad fd ps (spC C.K C.cn C.mg (callN Γ n key) F.k)
  fld : ∀ c x, (c, x) ∈ Γ.fls → Cls C.K (C.ad c) ∧ NoAttr C.K (C.ad c) x
  con : ∀ x d, Γ.con x = some d → ∃ u v, C.mg x = some u ∧ RelV v u ∧ ∀ w, Rv C.K w v d
  tpc : ∀ x l, Γ.con x = some (.tup l) → ∃ a o, C.mg x = some (.ref a) ∧ C.K.lookup a = some o ∧ o.cls = .type "tuple" ∧ o.dict = none ∧ ∀ w, Rv C.K w (.ref a) (.tup l)
  blt : ∀ x ∈ bnames, C.mg x = none
  exc : ∀ y l, (y, l) ∈ Γ.exc → ∃ A, XcF C.K C.mg y l A
  xsi : ∀ y f l, (y, f, l) ∈ Γ.xsi → ∃ A D, XcH C.K C.mg y l A ∧ SupF C.P C.K C.mg A f D ∧ Binds C.K D.fd [D.n0, D.n1] []
  lmf : ∀ g okv tb, (g, okv, tb) ∈ Γ.lmf → LmF C g okv tb
  prp : ∀ c x key F, (c, x, key) ∈ Γ.prp → Γ.fn key = some F → C.fl = false ∧ ∃ p ad fd ps, Cls C.K (C.ad c) ∧ PropOf C.K (C.ad c) x p ad ∧ Binds C.K fd ps [] ∧ FnOk C.P C.w C.K C.mg C.base (L2N.CX C.P C.w) (C.lg n) ad fd ps (spC C.K C.cn C.mg (callN Γ n key) F.k)
  mks : ∀ c key F, (c, key) ∈ Γ.mks → Γ.fn key = some F → F.k = 3 → C.fl = false ∧ ∃ ad, C.mg c = some (.ref (C.ad c)) ∧ Mk C.K (C.ad c) ad ∧ FnR C.P C.w C.K C.mg C.base (L2N.CX C.P C.w) (C.lg n) ad (starSp 2 (spC C.K C.cn C.mg (callN Γ n key) 3))
  opc : ∀ c ∈ Γ.opc, C.fl = false ∧ C.mg c = some (.ref (C.ad c)) ∧ OpF C.K (C.ad c)
theorem Know.xh {C : Ctx} {Γ : Gam} {n : Nat} (k : Know C Γ n) {z : Str} {l : List (Str × Bool)} (h : tabX Γ z = some l) : ∃ A, XcH C.K C.mg z l A := by
  unfold tabX at h
  split at h
  · rename_i l' hl
    cases h
    obtain ⟨A, F⟩ := k.exc _ _ (tab_mem hl)
    exact ⟨A, F.toXcH⟩
  · obtain ⟨p, hp, rfl⟩ := Option.map_eq_some_iff.mp h
    obtain ⟨A, D, F, _⟩ := k.xsi _ p.1 p.2 (tab_mem hp)
    exact ⟨A, F⟩
/-- what is known of the law's own code object -/
def LamF (C : Ctx) (n : Nat) (X : Cx) : Prop := 2 ≤ n ∧ ∃ c P, LamX.TabB X.base X.mg c P ∧ X.env.code = .ref c ∧ (P, X.env.qual ++ "<lambda>") ∈ C.T ∧ ∀ p ∈ C.T, p.1 = P → p.2 = X.env.qual ++ "<lambda>"
structure Gd (C : Ctx) (n : Nat) (X : Cx) (sc : Scope) (own : Str → Bool) (Nm : List Str) (W : WX) : Prop where
  P : X.prog = C.P
  w : X.w = C.w
  K : X.K = C.K
  mg : X.mg = C.mg
  base : X.base = C.base
  hsc : X.env.scope = sc
  hN : X.N = Nm
  nd : Nm.Nodup
  calm : X.calm = true
  room : Room (C.lh n) X.A
  tk : L2N.Takes X W
  fnc : ∀ x, own x = true → X.fn x = true
  lam : lamSc sc = true → ("_law_k" : Str) ∈ Nm → LamF C n X
abbrev zOf (C : Ctx) (Γ : Gam) (n : Nat) : Ec := ⟨C.cn, Γ.con, callN Γ n⟩
section
variable {C : Ctx} {Γ : Gam} {lv : Nat} {X : Cx} {sc : Scope} {own : Str → Bool} {Nm : List Str} {W : WX}
theorem Gd.gl (g : Gd C lv X sc own Nm W) {x : Str} (h : LR.gl sc x = true) : Gl X x := by
  unfold Gl Env.kindOf
  rw [g.hsc]
  exact gl_ok h
theorem Gd.vs (g : Gd C lv X sc own Nm W) {x : Str} (h : LR.vs sc x = true) : Vis X.env.scope x := by
  rw [g.hsc]
  exact vs_ok h
theorem Gd.lc (g : Gd C lv X sc own Nm W) {x : Str} (h : LR.lc sc x = true) : Loc X.env.scope x := by
  rw [g.hsc]
  exact lc_ok h
theorem Gd.nm (g : Gd C lv X sc own Nm W) {i : Nat} {x : Str} (h : nmAt Nm i x = true) : X.N[i]? = some x := by
  rw [g.hN]
  exact nmAt_ok h
theorem Gd.xnd (g : Gd C lv X sc own Nm W) : X.N.Nodup := by rw [g.hN]; exact g.nd
theorem Gd.hf (g : Gd C lv X sc own Nm W) {x : Str} (h : (lo sc x || own x) = true) : X.fn x = true ∨ X.env.scope.names.lookup x = some .local := by
  rw [g.hsc]
  rcases Bool.or_eq_true_iff.mp h with h | h
  · exact .inr (lo_ok h)
  · exact .inl (g.fnc x h)
theorem Gd.cP (g : Gd C lv X sc own Nm W) : C.cn.P = X.prog := g.P.symm
theorem Gd.cw (g : Gd C lv X sc own Nm W) : C.cn.w = X.w := g.w.symm
theorem Gd.rm (g : Gd C lv X sc own Nm W) : Room (C.lg lv) X.A := g.room.mono (C.lg_le lv)
theorem Gd.lh1 (_ : Gd C lv X sc own Nm W) : 1 ≤ C.lh lv := by
  unfold Ctx.lh Ctx.lg
  cases C.fl
  · simp only [Bool.false_eq_true, if_false]
    omega
  · simp only [if_true]
    by_cases h : lv = 0
    · subst h; decide
    · rw [if_neg (by omega), if_neg (by omega)]
      omega
theorem Gd.hu (g : Gd C lv X sc own Nm W) : X.A.units + 64 < cLine := g.room.units
theorem Gd.blk (g : Gd C lv X sc own Nm W) (s : Shared) (H : Hp) (scope : Scope) (hl : lamSc (relS scope sc) = false) (A : Addr) (cl : List (Str × Addr)) (fp : List Addr) : Gd C lv (X.blk s H scope (compEnvC scope cl A X.env) fp) (relS scope sc) (fun x => scope.names.lookup x == some .cell) Nm W0 := by
  have e := g.hsc
  subst e
  exact ⟨g.P, g.w, g.K, g.mg, g.base, rfl, g.hN, g.nd, g.calm, g.room, LRN.takes0, fun x h => h, fun h => absurd h (by rw [hl]; exact Bool.false_ne_true)⟩
theorem Know.none (k : Know C Γ lv) (g : Gd C lv X sc own Nm W) {x : Str} (h : x ∈ bnames) : X.mg x = none := by
  rw [g.mg]
  exact k.blt x h
theorem tgNames_ok (g : Gd C lv X sc own Nm W) : ∀ {is : List Nat} {es : List Expr}, tgNames Nm sc own is es = true → PGs X es (gNames is) ∧ es.all notStar = true ∧ es.length = is.length
  | [], [], _ => ⟨pgs_nil, rfl, rfl⟩
  | i :: is, e :: es, h => by
    cases e <;> try (simp [tgNames] at h; done)
    rename_i x p
    simp only [tgNames, Bool.and_eq_true] at h
    obtain ⟨h1, h2, h3⟩ := tgNames_ok g h.2
    refine ⟨pgs_cons (pg_name g.xnd (g.nm h.1.1.1) (g.lc h.1.1.2) (g.hf h.1.2)) h1 rfl, ?_, ?_⟩
    · simp only [List.all_cons, h2, Bool.and_true]
      rfl
    · simp [h3]
  | [], e :: es, h => by simp [tgNames] at h
  | i :: is, [], h => by simp [tgNames] at h
theorem chkTg_ok (g : Gd C lv X sc own Nm W) {tp : Bool} {vs : List Nat} {tg : Expr} (h : chkTg Nm sc own tp vs tg = true) : PG X tg (gT X.K tp vs) := by
  unfold chkTg at h
  split at h
  · simp only [Bool.and_eq_true] at h
    exact pg_name g.xnd (g.nm h.1.1) (g.lc h.1.2) (g.hf h.2)
  · obtain ⟨h1, h2, h3⟩ := tgNames_ok g h
    obtain ⟨k1, k2⟩ := asg_len (env := X.env) h2
    exact pg_tup g.calm h1 (by rw [k1, h3]) k2
  · cases h
end
end LR

set_option Elab.async false
set_option linter.all false
set_option maxRecDepth 100000
set_option maxHeartbeats 4000000
namespace LR
open PySem PySem.Spec PyProof.Rows L2
section
variable {C : Ctx} {Γ : Gam} {lv : Nat} {Nm : List Str}
structure Snd (C : Ctx) (Γ : Gam) (lv : Nat) (Nm : List Str) (n : Nat) : Prop where
  e : ∀ {X sc own W a e}, Gd C lv X sc own Nm W → chkE Γ Nm n sc a e = true → PE X e (eE X (zOf C Γ lv) W a)
  o : ∀ {X sc own W a e}, Gd C lv X sc own Nm W → chkO Γ Nm n sc a e = true → PO X e (eO X (zOf C Γ lv) W a)
  t : ∀ {X sc own W a e}, Gd C lv X sc own Nm W → chkT Γ Nm n sc a e = true → PT X e (eT X (zOf C Γ lv) W a)
  a : ∀ {X sc own W a e}, Gd C lv X sc own Nm W → chkA Γ Nm n sc a e = true → PA X e (eA X (zOf C Γ lv) W a)
  m : ∀ {X sc own W a e}, Gd C lv X sc own Nm W → chkN Γ Nm n sc a e = true → PE X e (eN X (zOf C Γ lv) W a)
  i : ∀ {X sc own W a tg e}, Gd C lv X sc own Nm W → chkI Γ Nm n sc a tg e = true → PI X tg e (eI X (zOf C Γ lv) W a)
variable {n : Nat} {X : Cx} {sc : Scope} {own : Str → Bool} {W : WX}
theorem pe_tail {op : BoolOp} {e : Expr} {rest : List Expr} {pos : Pos} {t : TE} (h : PE X (bTail op e rest pos) t) : PE X (.BoolOp op (e :: rest) pos) t := by
  cases rest with
  | nil => exact pe_one h
  | cons a l => exact h
theorem pw_tailA {e : Expr} {rest : List Expr} {pos : Pos} {t : TT} (h : PT X (bTail .And e rest pos) t) : PW X (.BoolOp .And (e :: rest) pos) t := by
  cases rest with
  | nil => exact pw_and1 h
  | cons a l => exact pw_of h
theorem pw_tailO {e : Expr} {rest : List Expr} {pos : Pos} {t : TT} (h : PT X (bTail .Or e rest pos) t) : PW X (.BoolOp .Or (e :: rest) pos) t := by
  cases rest with
  | nil => exact pw_or1 h
  | cons a l => exact pw_of h
theorem all_cons {e : Expr} {es : List Expr} (h : (e :: es).all notStar = true) : notStar e = true ∧ es.all notStar = true := by
  simpa using h
theorem bi_ok (k : Know C Γ lv) (g : Gd C lv X sc own Nm W) {b : Bi} {e : Expr} {es : List Expr} {as : Es} {p pos : Pos} (hg : LR.gl sc (biName b) = true) (hs : (e :: es).all notStar = true) (ha : PA X (e :: es) (eA X (zOf C Γ lv) W as)) : PE X (.Call (.Name (biName b) p) (e :: es) [] pos) (eE X (zOf C Γ lv) W (.bi b as)) := by
  obtain ⟨h1, h2⟩ := all_cons hs
  have he := star_cons h1 es X.env
  have hp : (backTo pos (starEach es X.env)).any (·.1) = false := star_any h2
  have gx := g.gl hg
  cases b with
  | len => exact se_biB call_len_seq bis_len gx (k.none g (by decide)) boot_len ha (by decide) (by decide) he hp
  | abs => exact se_biB call_abs bis_abs gx (k.none g (by decide)) PyProof.Rows.boot_abs ha (by decide) (by decide) he hp
  | int => exact se_biT call_int1 bis_int gx (k.none g (by decide)) PyProof.Rows.boot_int ha (by decide) (by decide) he hp
  | bool => exact se_biT call_bool1 bis_bool gx (k.none g (by decide)) PyProof.Rows.boot_bool ha (by decide) (by decide) he hp
  | min => exact se_biB (cr_minA g.calm g.hu) bis_min gx (k.none g (by decide)) boot_min ha (by decide) (by decide) he hp
  | max => exact se_biB (cr_maxA g.calm g.hu) bis_max gx (k.none g (by decide)) boot_max ha (by decide) (by decide) he hp
  | sum => exact se_biB (cr_sumA g.calm) bis_sum gx (k.none g (by decide)) boot_sum ha (by decide) (by decide) he hp
  | all => exact se_biB (cr_all g.calm) bis_all gx (k.none g (by decide)) boot_all ha (by decide) (by decide) he hp
  | any => exact se_biB (cr_any g.calm) bis_any gx (k.none g (by decide)) boot_any ha (by decide) (by decide) he hp
  | tuple => exact se_biT call_tuple_of bis_tuple gx (k.none g (by decide)) PyProof.Rows.boot_tuple ha (by decide) (by decide) he hp
theorem ty_ok (k : Know C Γ lv) (g : Gd C lv X sc own Nm W) {T : String} {x : Str} (h : tyOk T x = true) : X.mg x = none ∧ bootBuiltins x = some (.type T) ∧ x ≠ "__name__" ∧ (x == ("__debug__" : Str)) = false := by
  unfold tyOk at h
  simp only [Bool.or_eq_true, Bool.and_eq_true, decide_eq_true_eq, beq_iff_eq] at h
  rcases h with (((h | h) | h) | h) | h <;> obtain ⟨rfl, rfl⟩ := h
  · exact ⟨k.none g (by decide), PyProof.Rows.boot_int, by decide, by decide⟩
  · exact ⟨k.none g (by decide), PyProof.Rows.boot_bool, by decide, by decide⟩
  · exact ⟨k.none g (by decide), PyProof.Rows.boot_str, by decide, by decide⟩
  · exact ⟨k.none g (by decide), PyProof.Rows.boot_tuple, by decide, by decide⟩
  · exact ⟨k.none g (by decide), boot_list, by decide, by decide⟩
/-! ### a lambda handed to a def -/
theorem Fr.extN {K : PySem.W.Frag} {cn : Cn} {w : Wd} (rm : RM K cn w) {H1 : Hp} (e : LamX.ExtN w.H H1) : Fr w (w.puts H1) :=
  ⟨⟨⟨[], by simp⟩, fun a o h n x nt => ⟨e a o h nt, n, x⟩⟩, rfl, fun a ha => by obtain ⟨o, h, nt⟩ := rm.domX a ha; rw [h]; exact e a o h nt.1⟩
theorem RM.extN {K : PySem.W.Frag} {cn : Cn} {w : Wd} (rm : RM K cn w) {H1 : Hp} (e : LamX.ExtN w.H H1) (t : LamX.Tabs cn.T H1) : RM K cn (w.puts H1) :=
  ⟨rm.len, rm.nd, fun a ha => by obtain ⟨o, h, nt⟩ := rm.dom a ha; exact ⟨o, e a o h nt.1, nt⟩, fun a ha => by obtain ⟨o, h, nt⟩ := rm.domX a ha; exact ⟨o, e a o h nt.1, nt⟩, rm.apart,
    fun n c a hc ha => (rm.cell n c a hc ha).mono (Fr.extN rm e).wk (by obtain ⟨o, h, nt⟩ := rm.dom a (List.mem_of_getElem? ha); rw [h]; exact e a o h nt.1), t⟩
theorem lower_eq {Γ : Gam} (h : Γ.fn "↓" = none) (n : Nat) : lower (callN Γ (n + 2)) = callN Γ n := by
  funext f ds m
  unfold lower
  rw [callN, h]
  simp only [if_true]
  rw [callN, h]
  simp only [if_true]
theorem lam_ok (k : Know C Γ lv) (dn : ∀ l, lv = l + 2 → Snd C Γ l Nm n) (g : Gd C lv X sc own Nm W) {f : Str} {b : E} {okv : D} {tb : List (Str × D)} {params : Arguments} {body : Expr} {scope : Scope} {p1 lpos pos : Pos}
    (h1 : LR.gl sc f = true) (h2 : okN f = true) (h3 : lamSc sc = true) (h4 : Nm.contains ("_law_k" : Str) = true) (h5 : (Γ.fn "↓").isNone = true) (h6 : lmfOk Γ f okv tb = true) (h7 : LamX.lamSB sc scope = true) (h8 : noPar params = true) (h9 : chkE Γ Nm n scope b body = true) :
    PE X (.Call (.Name f p1) [.Lambda params body scope lpos] [] pos) (eE X (zOf C Γ lv) W (.lamc f b okv tb)) := by
  obtain ⟨hlv, c, P, TB, hcode, hmT, hu⟩ := g.lam h3 (by simpa using h4)
  obtain ⟨l, rfl⟩ : ∃ l, lv = l + 2 := ⟨lv - 2, by omega⟩
  have sl := dn l rfl
  have LS := LamX.lamS_by h7
  have LSX : LamX.LamS X.env.scope scope := by rw [g.hsc]; exact LS
  obtain ⟨ga, a, pg, bg, sg, dV, kV, doc, pm, cdv, ct, oc, an, od, osl, Ng, m1, m2, m3, m4, m5, m6, m7, m8, m9, m10, m11⟩ := k.lmf f okv tb (lmfOk_mem h6)
  obtain ⟨n1, n2, n3⟩ := okN_ok m9
  have hp : params = ⟨[], [], none, [], [], none, []⟩ := by
    unfold noPar at h8
    split at h8
    · rfl
    · cases h8
  subst hp
  have hno : Γ.fn "↓" = none := by simpa using h5
  refine pe_imp (LRN.lamcall (T := C.T) (TT := TTl C okv tb) (x := f) (a := a) (g := ga) (c := c) (P := P) (k := C.lh l) (t := fun E => tE X.K C.cn X.mg Γ.con (callN Γ l) (fun cls d _ H' => E cls d H') b) (g.gl h1) (by rw [g.mg]; exact m1) (by rw [g.K]; exact m2) (by rw [g.K]; exact m3) (by rw [g.K]; exact m4) (by rw [g.K]; exact m5) m6 m7 m8
    (m11 X _ g.P g.w g.K g.mg) TB hcode hmT hu (g.room.mono (C.lh_two l)) LSX rfl (fun _ _ _ _ _ => rfl) (fun A outer s H E f' c' hr => ?_) (okN_ok h2).1 n1 n2) (fun σ H Q hq => ?_)
  · exact sl.e (X := LRN.lamCx X A outer s H E scope f' c') (sc := scope) (own := fun _ => false) (W := fun cls d _ H' => E cls d H')
      ⟨g.P, g.w, g.K, g.mg, g.base, rfl, g.hN, g.nd, rfl, hr, L2N.takes_of rfl rfl rfl rfl, fun x h => absurd h Bool.false_ne_true, fun hs => absurd rfl (LS.own _ (PySem.mem_of_lookup (of_decide_eq_true hs))).1⟩ h9
  · obtain ⟨w, s, hw, rm, rs, p⟩ := hq
    subst hw
    refine ⟨rm.tabs, fun H1 eN T1 => ⟨fun cls d H' => XDH d H' ∧ ∃ y dd, tab y tb = some dd ∧ C.mg y = some cls ∧ ∀ v H'', RvC C.K v dd → HExt H' H'' → Q v H'', ?_, fun cls d H' h => h⟩⟩
    have fr1 := Fr.extN rm eN
    have rm1 := rm.extN eN T1
    refine ⟨w.puts H1, s, rfl, rm1, RS.mono fr1.wk rs, ?_⟩
    rw [ev] at p
    have hlow : lower (zOf C Γ (l + 2)).cl = callN Γ l := lower_eq hno l
    rw [hlow] at p
    show Post X.K C.cn X.mg (Rv X.K) _ _ (w.puts H1) (ev Γ.con (callN Γ l) b s w.m)
    have p : Post X.K C.cn X.mg (Rv X.K) Q (WE W σ) w (match ev Γ.con (callN Γ l) b s w.m with
      | .ok _ m => opt m (okOf okv)
      | .exc x m => opt m (tab x.cls tb)
      | .err => .err) := p
    cases hr : ev Γ.con (callN Γ l) b s w.m with
    | err => rw [hr] at p; exact p
    | ok d m =>
      rw [hr] at p
      simp only at p
      cases ho : okOf okv with
      | none => rw [ho] at p; exact p.elim
      | some o =>
        rw [ho] at p
        intro w' v hm rm' fr _
        exact ⟨o, rfl, fun v' rv => p w' v' hm rm' (fr1.trans fr) (by rw [g.K]; exact rv w')⟩
    | exc x m =>
      rw [hr] at p
      simp only at p
      cases ht : tab x.cls tb with
      | none => rw [ht] at p; exact p.elim
      | some dd =>
        rw [ht] at p
        intro w' cls d hm rm' fr hg hfs
        refine ⟨hfs.h, x.cls, dd, ht, by rw [← g.mg]; exact hg, fun v H'' rv hx => ?_⟩
        have eN2 : LamX.ExtN w'.H H'' := fun a o h _ => hx a o h
        exact p (w'.puts H'') v hm (rm'.extN eN2 (rm'.tabs.ext hx)) (fr1.trans (fr.trans (Fr.extN rm' eN2))) (by rw [g.K]; exact rv _)
theorem snd_e (k : Know C Γ lv) (ih : Snd C Γ lv Nm n) (dn : ∀ l, lv = l + 2 → Snd C Γ l Nm n) (g : Gd C lv X sc own Nm W) {a : E} {e : Expr} (h : chkE Γ Nm (n + 1) sc a e = true) : PE X e (eE X (zOf C Γ lv) W a) := by
  cases a with
  | nop => simp [chkE] at h
  | c d =>
    cases d <;> simp only [chkE] at h
    · split at h
      · exact se_non
      · cases h
    · split at h
      · rw [of_decide_eq_true h]; exact se_bl
      · cases h
    · split at h
      · rw [of_decide_eq_true h]; exact se_int
      · cases h
    · split at h
      · rw [of_decide_eq_true h]; exact se_str
      · cases h
    all_goals cases h
  | v i =>
    simp only [chkE] at h
    split at h
    · simp only [Bool.and_eq_true] at h
      obtain ⟨h1, h2, _⟩ := okN_ok h.2
      exact se_var (g.nm h.1.1) (g.vs h.1.2) h1 h2
    · cases h
  | g x =>
    simp only [chkE] at h
    split at h
    · simp only [Bool.and_eq_true, decide_eq_true_eq] at h
      obtain ⟨⟨⟨rfl, h1⟩, h2⟩, h3⟩ := h
      obtain ⟨d, hd⟩ := Option.isSome_iff_exists.mp h3
      refine se_glob (d := d) (g.gl h1) hd ?_ (okN_ok h2).1
      rw [g.mg, g.K]
      exact k.con _ d hd
    · cases h
  | o1 k1 a =>
    cases k1 with
    | neg =>
      simp only [chkE] at h
      split at h
      · exact se_neg (ih.e g h)
      · cases h
    | rev =>
      simp only [chkE] at h
      split at h
      · simp only [Bool.and_eq_true, decide_eq_true_eq] at h
        obtain ⟨rfl, h⟩ := h
        exact se_rev (ih.e g h)
      · cases h
  | o2 o a b =>
    simp only [chkE] at h
    split at h
    · simp only [Bool.and_eq_true] at h
      obtain ⟨r, h1, h2⟩ := bin_ok (X := X) (cn := C.cn) h.1.1
      exact se_bin h1 h2 (ih.e g h.1.2) (ih.e g h.2)
    · simp only [Bool.and_eq_true] at h
      obtain ⟨r, h1, h2⟩ := cmp_ok (cn := C.cn) g.cP g.cw g.hu h.1.1.1
      exact se_cmp h1 h2 (ih.e g h.1.2) (ih.e g h.2) (set_marks h.1.1.2)
    · cases h
  | ch o o' a b c =>
    simp only [chkE] at h
    split at h
    · simp only [Bool.and_eq_true] at h
      obtain ⟨⟨⟨⟨⟨c1, c2⟩, c3⟩, c4⟩, c5⟩, c6⟩ := h
      obtain ⟨r, h1, h2⟩ := cmp_ok (cn := C.cn) g.cP g.cw g.hu c1
      obtain ⟨r', h1', h2'⟩ := cmp_ok (cn := C.cn) g.cP g.cw g.hu c2
      exact se_ch h1 h1' h2 h2' (ih.e g c4) (ih.e g c5) (ih.e g c6) (set_marks c3)
    · cases h
  | idx a b =>
    simp only [chkE] at h
    split at h
    · simp only [Bool.and_eq_true] at h
      exact se_idx (ih.e g h.1.2) (ih.e g h.2) (slice_plain h.1.1)
    · cases h
  | no a =>
    simp only [chkE] at h
    split at h
    · exact se_not (ih.e g h)
    · cases h
  | and a b =>
    simp only [chkE] at h
    split at h
    · simp only [Bool.and_eq_true] at h
      exact se_and (ih.e g h.1) (pe_tail (ih.e g h.2))
    · cases h
  | or a b =>
    simp only [chkE] at h
    split at h
    · simp only [Bool.and_eq_true] at h
      exact se_or (ih.e g h.1) (pe_tail (ih.e g h.2))
    · cases h
  | ite t a b =>
    simp only [chkE] at h
    split at h
    · simp only [Bool.and_eq_true] at h
      exact se_ite (ih.t g h.1.1) (ih.e g h.1.2) (ih.e g h.2)
    · cases h
  | tup as =>
    simp only [chkE] at h
    split at h
    · simp only [Bool.and_eq_true, decide_eq_true_eq] at h
      exact se_tup (ih.a g h.2) h.1
    · cases h
  | nl mt m =>
    simp only [chkE] at h
    exact se_nl (ih.m g h)
  | sl a l hh =>
    simp only [chkE] at h
    split at h
    · simp only [Bool.and_eq_true] at h
      exact se_sl (ih.e g h.1.1) (ih.o g h.1.2) (ih.o g h.2)
    · cases h
  | call f as =>
    simp only [chkE] at h
    split at h
    · simp only [Bool.and_eq_true, decide_eq_true_eq] at h
      obtain ⟨⟨⟨⟨⟨⟨rfl, h1⟩, h2⟩, h0⟩, h3⟩, h4⟩, h5⟩ := h
      split at h4
      · rename_i F hF
        obtain ⟨ad, fd, ps, k1, k2, k3, k4⟩ := k.fn _ F (by simpa using h0) hF
        rw [← g.P, ← g.w, ← g.K, ← g.mg, ← g.base] at k4
        rw [← g.mg] at k1
        rw [← g.K] at k2 k3
        obtain ⟨s1, s2⟩ := all_cons h3
        exact se_call k4 g.rm (g.gl h1) k1 k2 k3 g.tk (ih.a g h5) (okN_ok h2).1 (star_cons s1 _ _) (star_any s2) (of_decide_eq_true h4)
      · cases h4
    · cases h
  | bi b as =>
    simp only [chkE] at h
    split at h
    · simp only [Bool.and_eq_true, decide_eq_true_eq] at h
      obtain ⟨⟨⟨rfl, h1⟩, h2⟩, h3⟩ := h
      exact bi_ok k g h1 h2 (ih.a g h3)
    · cases h
  | isi T a =>
    simp only [chkE] at h
    split at h
    · simp only [Bool.and_eq_true, decide_eq_true_eq] at h
      obtain ⟨⟨⟨⟨⟨rfl, h1⟩, h2⟩, h3⟩, h4⟩, h5⟩ := h
      obtain ⟨t1, t2, t3, t4⟩ := ty_ok k g h2
      exact se_isi (ih.e g h5) (g.gl h1) (k.none g (by decide)) (g.gl h3) t1 t2 t3 t4 (star_cons h4 _ _) rfl
    · cases h
  | su k' a =>
    simp only [chkE] at h
    split at h
    · simp only [Bool.and_eq_true, decide_eq_true_eq] at h
      obtain ⟨⟨⟨h1, h2⟩, h3⟩, h4⟩ := h
      have hs := star_cons h3 [] X.env
      cases k' with
      | len =>
        cases of_decide_eq_true h1
        exact se_slen (g.gl h2) (k.none g (by decide)) (ih.a g h4) hs
      | str =>
        cases of_decide_eq_true h1
        exact se_sstr (g.gl h2) (k.none g (by decide)) (ih.a g h4) hs
    · cases h
  | so k' a b =>
    simp only [chkE] at h
    split at h
    · split at h
      · simp only [Bool.and_eq_true] at h
        exact se_six (ih.e g h.1.2) (ih.e g h.2) (slice_plain h.1.1)
      · cases h
    · split at h
      · rename_i y pn m ap e2 cp
        simp only [Bool.and_eq_true, decide_eq_true_eq] at h
        obtain ⟨⟨⟨⟨⟨⟨⟨rfl, h1⟩, h2⟩, h3⟩, h4⟩, h5⟩, h6⟩, h7⟩ := h
        have ea := isG_ok h3
        subst ea
        obtain ⟨l, hl⟩ := conTup_ok h4
        obtain ⟨A, o, m1, m2, m3, m4, m5⟩ := k.tpc y l hl
        have hs := star_cons h6 [] X.env
        refine se_tidx (A := A) (o := o) (pe_glob (v := .ref A) (g.gl h1) (by rw [g.mg]; exact m1) rfl (okN_ok h2).1) (by rw [g.K]; exact m2) m3 m4 (fun l' hl' w => ?_) ⟨l, hl⟩ (ih.e g h7) ?_ h5 hs
        · have : l' = l := by
            have e := hl'.symm.trans hl
            cases e
            rfl
          subst this
          rw [g.K]
          exact m5 w
        · rw [hs]
          rfl
      · cases h
    · split at h
      · simp only [Bool.and_eq_true] at h
        obtain ⟨⟨⟨⟨⟨h1, h2⟩, h3⟩, h4⟩, h5⟩, h6⟩ := h
        have hs := star_cons h4 [] X.env
        have hs1 : starEach [_] X.env = [(false, eval _ X.env)] := hs
        cases k' with
        | ix => simp [soName] at h1
        | tidx => simp [soName] at h1
        | join =>
          cases of_decide_eq_true h1
          exact se_join (ih.e g h5) (ih.e g h6) hs1 (nc_base h2) h3
        | split =>
          cases of_decide_eq_true h1
          exact se_split (ih.e g h5) (ih.e g h6) hs1 (nc_base h2) h3
        | sw =>
          cases of_decide_eq_true h1
          exact se_sw (ih.e g h5) (ih.e g h6) hs1 (nc_base h2) h3
        | sidx =>
          cases of_decide_eq_true h1
          exact se_sidx (ih.e g h5) (ih.e g h6) hs1 (nc_base h2) h3
        | lidx =>
          cases of_decide_eq_true h1
          refine se_lidx (ih.e g h5) (ih.e g h6) (nc_base h2) ?_ h3 hs
          rw [hs]
          rfl
      · cases h
  | dn1 a b =>
    simp only [chkE] at h
    split at h
    · simp only [Bool.and_eq_true] at h
      exact se_dn1 g.cP g.cw g.hu (ih.e g h.1) (ih.e g h.2)
    · cases h
  | dnw =>
    simp only [chkE] at h
    split at h
    · exact se_dnw g.cP g.cw
    · cases h
  | dget a b =>
    simp only [chkE] at h
    split at h
    · simp only [Bool.and_eq_true] at h
      exact se_dget g.cP g.cw g.hu (ih.e g h.1.2) (ih.e g h.2) (noSl h.1.1)
    · cases h
  | fld a C' x =>
    simp only [chkE] at h
    split at h
    · simp only [Bool.and_eq_true, decide_eq_true_eq] at h
      obtain ⟨⟨⟨rfl, h1⟩, h2⟩, h3⟩ := h
      obtain ⟨k1, k2⟩ := k.fld _ _ (fldOk_mem h2)
      rw [← g.K] at k1 k2
      exact se_fld (ih.e g h3) (name_base h1) k1 k2
    · cases h
  | mk C' key as =>
    simp only [chkE] at h
    split at h
    · rename_i x p1 es p2
      rcases (Bool.or_eq_true_iff.mp h).symm with h | h
      · simp only [Bool.and_eq_true, decide_eq_true_eq] at h
        obtain ⟨⟨⟨⟨⟨rfl, h1⟩, h2⟩, h3⟩, h4⟩, h5⟩ := h
        obtain ⟨F, hF, hk⟩ := kOk_ok h4
        obtain ⟨k0, ad, k1, k2, k3⟩ := k.mks _ _ F (mksOk_mem h3) hF hk
        rw [← g.P, ← g.w, ← g.K, ← g.mg, ← g.base] at k3
        rw [← g.mg] at k1
        rw [← g.K] at k2
        split at h5
        · rename_i a as e1 es
          simp only [Bool.and_eq_true, decide_eq_true_eq] at h5
          obtain ⟨⟨s3, h6⟩, h7⟩ := h5
          obtain ⟨s1, s2⟩ := all_cons s3
          exact se_mks (M := k2) k3 (g.room.mono (C.lh1_le _ k0)) (g.gl h1) k1 g.tk (ih.a g h7) (okN_ok h2).1 (star_cons s1 _ _) (star_any s2) h6
        · simp only [Bool.and_eq_true] at h5
          exact se_mks2 (M := k2) k3 (g.room.mono (C.lh1_le _ k0)) (g.gl h1) k1 g.tk (ih.e g h5.1.2) (ih.e g h5.2) (okN_ok h2).1 (star_cons h5.1.1 _ _)
        · cases h5
      simp only [Bool.and_eq_true, decide_eq_true_eq] at h
      obtain ⟨⟨⟨⟨⟨⟨rfl, h1⟩, h2⟩, h3⟩, h4⟩, h5⟩, h6⟩ := h
      split at h5
      · rename_i F hF
        obtain ⟨ad, fd, ps, k1, k2, k3, k4, k5⟩ := k.mth _ _ _ F (mthOk_mem h4) hF
        obtain ⟨m1, m2⟩ := k3 rfl
        rw [← g.P, ← g.w, ← g.K, ← g.mg, ← g.base] at k5
        rw [← g.mg] at m1
        rw [← g.K] at m2 k4
        cases es with
        | nil =>
          cases as with
          | nil => exact se_mk0 m2 (by have := of_decide_eq_true h5; rw [← this] at k5; exact k5) (g.room.mono (C.lm_init _)) (g.gl h1) m1 k4 g.tk (okN_ok h2).1
          | cons a as => cases n <;> simp [chkA] at h6
        | cons e1 es =>
          obtain ⟨s1, s2⟩ := all_cons h3
          exact se_mk m2 k5 (g.room.mono (C.lm_init _)) (g.gl h1) m1 k4 g.tk (ih.a g h6) (okN_ok h2).1 (star_cons s1 _ _) (star_any s2) (of_decide_eq_true h5)
      · cases h5
    · cases h
  | mc o C' m key as =>
    simp only [chkE] at h
    split at h
    · simp only [Bool.and_eq_true, decide_eq_true_eq] at h
      obtain ⟨⟨⟨⟨⟨⟨⟨⟨rfl, h1⟩, h2⟩, h3⟩, h4⟩, h5⟩, h6⟩, h7⟩, h8⟩ := h
      split at h6
      · rename_i F hF
        obtain ⟨ad, fd, ps, k1, k2, k3, k4, k5⟩ := k.mth _ _ _ F (mthOk_mem h5) hF
        rw [← g.P, ← g.w, ← g.K, ← g.mg, ← g.base] at k5
        rw [← g.K] at k1 k2 k4
        obtain ⟨s1, s2⟩ := all_cons h3
        exact se_mc k5 (g.rm.mono (C.lm_le _ _)) k1 k2 k4 g.tk (ih.e g h7) (ih.a g h8) (star_cons s1 _ _) (star_any s2) (ht_of (name_base h1) (form_ok h3 h4) h2) (of_decide_eq_true h6)
      · cases h6
    · cases h
  | prp o C' m key =>
    simp only [chkE] at h
    split at h
    · simp only [Bool.and_eq_true, decide_eq_true_eq] at h
      obtain ⟨⟨⟨⟨rfl, h1⟩, h2⟩, h3⟩, h4⟩ := h
      obtain ⟨F, hF, hk⟩ := kOk_ok h3
      obtain ⟨k0, p, ad, fd, ps, k1, k2, k3, k4⟩ := k.prp _ _ _ F (prpOk_mem h2) hF
      rw [← g.P, ← g.w, ← g.K, ← g.mg, ← g.base, hk] at k4
      rw [← g.K] at k1 k2 k3
      exact se_prp k4 (g.room.mono (C.lh1_le _ k0)) k1 k2 k3 (ih.e g h4) (name_base h1)
    · cases h
  | oo1 k' C' key a =>
    cases k' with
    | len =>
      simp only [chkE] at h
      split at h
      · simp only [Bool.and_eq_true, decide_eq_true_eq] at h
        obtain ⟨⟨⟨⟨⟨⟨rfl, h1⟩, h2⟩, h2'⟩, h3⟩, h4⟩, h5⟩ := h
        obtain ⟨F, hF, hk⟩ := kOk_ok h4
        obtain ⟨ad, fd, ps, k1, k2, _, k4, k5⟩ := k.mth _ _ _ F (mthOk_mem h3) hF
        obtain ⟨k0, _, _⟩ := k.opc _ (opOk_mem h2')
        rw [← g.P, ← g.w, ← g.K, ← g.mg, ← g.base, hk] at k5
        rw [← g.K] at k2 k4
        exact se_olen k5 (g.room.mono (C.lm1_le _ _ k0)) k2 k4 g.tk (ih.e g h5) (g.gl h1) (k.none g (by decide)) (star_cons h2 _ _)
      · cases h
    | tru =>
      simp only [chkE] at h
      split at h
      · simp only [Bool.and_eq_true, decide_eq_true_eq] at h
        obtain ⟨⟨⟨⟨⟨⟨rfl, h1⟩, h2⟩, h2'⟩, h3⟩, h4⟩, h5⟩ := h
        obtain ⟨F, hF, hk⟩ := kOk_ok h4
        obtain ⟨ad, fd, ps, k1, k2, _, k4, k5⟩ := k.mth _ _ _ F (mthOk_mem h3) hF
        obtain ⟨k0, _, _⟩ := k.opc _ (opOk_mem h2')
        rw [← g.P, ← g.w, ← g.K, ← g.mg, ← g.base, hk] at k5
        rw [← g.K] at k2 k4
        exact se_obool k5 (g.room.mono (C.lm2_le _ _ k0)) k2 k4 g.tk (ih.e g h5) (g.gl h1) (k.none g (by decide)) (star_cons h2 _ _)
      · cases h
    | neg =>
      simp only [chkE] at h
      split at h
      · simp only [Bool.and_eq_true] at h
        obtain ⟨⟨h3, h4⟩, h5⟩ := h
        obtain ⟨F, hF, hk⟩ := kOk_ok h4
        obtain ⟨ad, fd, ps, k1, k2, _, k4, k5⟩ := k.mth _ _ _ F (mthOk_mem h3) hF
        rw [← g.P, ← g.w, ← g.K, ← g.mg, ← g.base, hk] at k5
        rw [← g.K] at k2 k4
        exact se_oneg k5 (g.rm.mono (C.lm_le _ _)) k2 k4 g.tk (ih.e g h5)
      · cases h
  | oo2 k' C' key a b =>
    simp only [chkE] at h
    split at h
    · split at h
      · simp only [Bool.and_eq_true, true_and] at h
        obtain ⟨⟨⟨⟨⟨h1, h2⟩, h3⟩, h4⟩, h5⟩, h6⟩ := h
        obtain ⟨F, hF, hk⟩ := kOk_ok h4
        obtain ⟨ad, fd, ps, k1, k2, _, k4, k5⟩ := k.mth _ _ _ F (mthOk_mem h3) hF
        obtain ⟨k0, _, O⟩ := k.opc _ (opOk_mem h2)
        rw [← g.P, ← g.w, ← g.K, ← g.mg, ← g.base, hk] at k5
        rw [← g.K] at k2 k4 O
        exact se_oget O k5 (g.room.mono (C.lm1_le _ _ k0)) k2 k4 g.tk (ih.e g h5) (ih.e g h6) (slice_get h1)
      · simp at h
    · simp only [Bool.and_eq_true] at h
      obtain ⟨⟨⟨⟨⟨⟨h0, h1⟩, h2⟩, h3⟩, h4⟩, h5⟩, h6⟩ := h
      obtain ⟨F, hF, hk⟩ := kOk_ok h4
      obtain ⟨ad, fd, ps, k1, k2, _, k4, k5⟩ := k.mth _ _ _ F (mthOk_mem h3) hF
      obtain ⟨k0, _, O⟩ := k.opc _ (opOk_mem h2)
      rw [← g.P, ← g.w, ← g.K, ← g.mg, ← g.base, hk] at k5
      rw [← g.K] at k2 k4 O
      exact se_oo2 h0 O k5 (g.room.mono (C.lm1_le _ _ k0)) k2 k4 g.tk (ih.e g h5) (ih.e g h6) (set_marks h1)
    · cases h
  | iso C' a =>
    simp only [chkE] at h
    split at h
    · simp only [Bool.and_eq_true, decide_eq_true_eq] at h
      obtain ⟨⟨⟨⟨⟨⟨⟨rfl, h1⟩, rfl⟩, h3⟩, h4⟩, h5⟩, h6⟩, h7⟩ := h
      obtain ⟨k0, k1, O⟩ := k.opc _ (opOk_mem h5)
      rw [← g.mg] at k1
      rw [← g.K] at O
      exact se_iso O (ih.e g h7) (g.gl h1) (k.none g (by decide)) (g.gl h3) k1 (okN_ok h4).1 (star_cons h6 _ _) rfl
    · cases h
  | lamc f b okv tb =>
    simp only [chkE] at h
    split at h
    · simp only [Bool.and_eq_true, decide_eq_true_eq] at h
      obtain ⟨⟨⟨⟨⟨⟨⟨⟨⟨rfl, h1⟩, h2⟩, h3⟩, h4⟩, h5⟩, h6⟩, h7⟩, h8⟩, h9⟩ := h
      exact lam_ok k dn g h1 h2 h3 h4 h5 h6 h7 h8 h9
    · cases h
  | lset a =>
    simp only [chkE] at h
    split at h
    · simp only [Bool.and_eq_true, decide_eq_true_eq] at h
      obtain ⟨⟨⟨⟨⟨rfl, h1⟩, rfl⟩, h3⟩, h4⟩, h5⟩ := h
      exact se_lset (ih.e g h5) (g.gl h1) (k.none g (by decide)) (g.gl h3) (k.none g (by decide)) g.calm (star_cons h4 _ _)
    · cases h
  | tr1 a =>
    simp only [chkE] at h
    split at h
    · simp only [Bool.and_eq_true, decide_eq_true_eq] at h
      obtain ⟨⟨⟨⟨⟨rfl, h1⟩, rfl⟩, h2⟩, h3⟩, h4⟩ := h
      exact se_tr1 g.calm (g.gl h1) (k.none g (by decide)) (g.gl h2) (k.none g (by decide)) (ih.e g h4) (star_cons h3 _ _) rfl
    · cases h
  | tr2 a b =>
    simp only [chkE] at h
    split at h
    · simp only [Bool.and_eq_true, decide_eq_true_eq] at h
      obtain ⟨⟨⟨⟨⟨⟨⟨rfl, h1⟩, rfl⟩, h2⟩, h3⟩, h3'⟩, h4⟩, h5⟩ := h
      exact se_tr2 g.calm (g.gl h1) (k.none g (by decide)) (g.gl h2) (k.none g (by decide)) (ih.e g h4) (ih.e g h5) (star_cons h3 _ _) (star_cons h3' _ _) (star_any (by simp [h3'])) rfl
    · cases h
  | cnt o a =>
    simp only [chkE] at h
    split at h
    · simp only [Bool.and_eq_true, decide_eq_true_eq] at h
      obtain ⟨⟨⟨⟨⟨rfl, h1⟩, h2⟩, h3⟩, h4⟩, h5⟩ := h
      have hs := star_cons h3 [] X.env
      refine se_cnt (ih.e g h4) (ih.e g h5) (name_base h1) ?_ h2 hs
      rw [hs]
      rfl
    · cases h
  | app o a =>
    simp only [chkE] at h
    split at h
    · simp only [Bool.and_eq_true, decide_eq_true_eq] at h
      obtain ⟨⟨⟨⟨⟨rfl, h1⟩, h2⟩, h3⟩, h4⟩, h5⟩ := h
      have hs := star_cons h3 [] X.env
      refine se_app (ih.e g h4) (ih.e g h5) (name_base h1) ?_ h2 hs
      rw [hs]
      rfl
    · cases h
end
end LR

set_option Elab.async false
set_option linter.all false
set_option maxRecDepth 100000
set_option maxHeartbeats 4000000
namespace LR
open PySem PySem.Spec PyProof.Rows L2
section
variable {C : Ctx} {Γ : Gam} {lv : Nat} {Nm : List Str} {n : Nat} {X : Cx} {sc : Scope} {own : Str → Bool} {W : WX}
theorem snd_o (k : Know C Γ lv) (ih : Snd C Γ lv Nm n) (g : Gd C lv X sc own Nm W) {a : E} {e : Option Expr} (h : chkO Γ Nm (n + 1) sc a e = true) : PO X e (eO X (zOf C Γ lv) W a) := by
  cases e with
  | none =>
    simp only [chkO] at h
    split at h
    · exact so_none
    · cases h
  | some e =>
    simp only [chkO, Bool.and_eq_true, Bool.not_eq_true'] at h
    exact so_some (ih.e g h.2) h.1
theorem snd_t (k : Know C Γ lv) (ih : Snd C Γ lv Nm n) (g : Gd C lv X sc own Nm W) {a : E} {e : Expr} (h : chkT Γ Nm (n + 1) sc a e = true) : PT X e (eT X (zOf C Γ lv) W a) := by
  unfold chkT at h
  split at h
  · split at h
    · exact st_not (ih.t g h)
    · cases h
  · split at h
    · simp only [Bool.and_eq_true] at h
      exact (sw_and (ih.t g h.1) (pw_tailA (ih.t g h.2))).pt
    · cases h
  · split at h
    · simp only [Bool.and_eq_true] at h
      exact (sw_or (ih.t g h.1) (pw_tailO (ih.t g h.2))).pt
    · cases h
  · split at h
    · simp only [Bool.and_eq_true] at h
      obtain ⟨r, h1, h2⟩ := cmp_ok (cn := C.cn) g.cP g.cw g.hu h.1.1.1
      exact st_cmp h1 h2 (ih.e g h.1.2) (ih.e g h.2) (set_marks h.1.1.2)
    · simp only [Bool.and_eq_true] at h
      obtain ⟨⟨⟨⟨⟨⟨h0, h1⟩, h2⟩, h3⟩, h4⟩, h5⟩, h6⟩ := h
      obtain ⟨F, hF, hk⟩ := kOk_ok h4
      obtain ⟨ad, fd, ps, k1, k2, _, k4, k5⟩ := k.mth _ _ _ F (mthOk_mem h3) hF
      obtain ⟨k0, _, O⟩ := k.opc _ (opOk_mem h2)
      rw [← g.P, ← g.w, ← g.K, ← g.mg, ← g.base, hk] at k5
      rw [← g.K] at k2 k4 O
      exact st_oo2 h0 O k5 (g.room.mono (C.lm1_le _ _ k0)) k2 k4 g.tk (ih.e g h5) (ih.e g h6) (set_marks h1)
    · cases h
  · split at h
    · simp only [Bool.and_eq_true] at h
      obtain ⟨⟨⟨⟨⟨c1, c2⟩, c3⟩, c4⟩, c5⟩, c6⟩ := h
      obtain ⟨r, h1, h2⟩ := cmp_ok (cn := C.cn) g.cP g.cw g.hu c1
      obtain ⟨r', h1', h2'⟩ := cmp_ok (cn := C.cn) g.cP g.cw g.hu c2
      exact st_ch h1 h1' h2 h2' (ih.e g c4) (ih.e g c5) (ih.e g c6) (set_marks c3)
    · cases h
  · simp only [Bool.and_eq_true] at h
    exact st_val (ih.e g h.2) (val_test h.1)
theorem snd_a (k : Know C Γ lv) (ih : Snd C Γ lv Nm n) (g : Gd C lv X sc own Nm W) {a : Es} {e : List Expr} (h : chkA Γ Nm (n + 1) sc a e = true) : PA X e (eA X (zOf C Γ lv) W a) := by
  cases a with
  | nil =>
    cases e with
    | nil => exact sa_nil
    | cons e es => simp [chkA] at h
  | cons a as =>
    cases e with
    | nil => simp [chkA] at h
    | cons e es =>
      simp only [chkA, Bool.and_eq_true] at h
      exact sa_cons (ih.e g h.1.2) (ih.a g h.2) (star_cons h.1.1 _ _)
theorem own_of {vs : List Nat} : (ownOf Nm vs).map (·.2) = vs := by
  unfold ownOf
  rw [List.map_map]
  simp [Function.comp_def]
theorem snd_m (k : Know C Γ lv) (ih : Snd C Γ lv Nm n) (g : Gd C lv X sc own Nm W) {a : N} {e : Expr} (h : chkN Γ Nm (n + 1) sc a e = true) : PE X e (eN X (zOf C Γ lv) W a) := by
  cases a with
  | disp as =>
    simp only [chkN] at h
    split at h
    · simp only [Bool.and_eq_true, decide_eq_true_eq] at h
      exact sn_disp (ih.a g h.2) (Nat.le_trans h.1 (by decide))
    · cases h
  | comp a tp vs it c =>
    simp only [chkN] at h
    split at h
    · rename_i e1 tg iter ifs scope pos
      simp only [Bool.and_eq_true] at h
      obtain ⟨⟨⟨⟨⟨h1, h2⟩, h3⟩, h4⟩, h5⟩, h6⟩ := h
      have hb := blkOk_by (blkCL_1 h2)
      rw [← g.hsc] at hb
      rw [← g.hN] at hb
      refine sn_comp own_of g.calm g.xnd (ih.i g h1) hb (fun s H A cl fp => chkTg_ok (g.blk s H scope (blkCL_2 h2) A cl fp) h3) (fun s H A cl fp => ?_) (fun s H A cl fp => ih.e (g.blk s H scope (blkCL_2 h2) A cl fp) h5) (fun x => set_fold h4 x)
      unfold ttOf
      split at h6
      · rw [if_pos h6]
        exact pts_nil
      · simp only [Bool.and_eq_true, Bool.not_eq_true'] at h6
        rw [if_neg (by rw [h6.1]; exact Bool.false_ne_true)]
        exact pts_one (ih.t (g.blk s H scope (blkCL_2 h2) A cl fp) h6.2)
      · cases h6
    · cases h
  | cp a =>
    simp only [chkN] at h
    split at h
    · simp only [Bool.and_eq_true, decide_eq_true_eq] at h
      obtain ⟨⟨⟨rfl, h1⟩, h2⟩, h3⟩ := h
      exact sn_cp (q := ⟨0, 0, 0, 0⟩) (ih.e g h3) (g.gl h1) (k.none g (by decide)) (star_cons h2 _ _) rfl
    · cases h
  | srt a =>
    simp only [chkN] at h
    split at h
    · simp only [Bool.and_eq_true, decide_eq_true_eq] at h
      obtain ⟨⟨⟨rfl, h1⟩, h2⟩, h3⟩ := h
      exact sn_srt (q := ⟨0, 0, 0, 0⟩) (ih.e g h3) (g.gl h1) (k.none g (by decide)) (star_cons h2 _ _) rfl
    · cases h
  | srp a => simp [chkN] at h
  | rng as =>
    match as, h with
    | .nil, h => simp [chkN] at h
    | .cons a (.cons b c), h => simp [chkN] at h
    | .cons a .nil, h =>
      simp only [chkN] at h
      split at h
      · simp only [Bool.and_eq_true, decide_eq_true_eq] at h
        obtain ⟨⟨⟨⟨⟨rfl, h1⟩, rfl⟩, h3⟩, h4⟩, h5⟩ := h
        exact sn_rng1 g.calm (g.gl h1) (k.none g (by decide)) (g.gl h3) (k.none g (by decide)) (ih.e g h5) (star_cons h4 _ _) rfl
      · cases h
  | zp a b =>
    simp only [chkN] at h
    split at h
    · simp only [Bool.and_eq_true, decide_eq_true_eq] at h
      obtain ⟨⟨⟨⟨⟨⟨rfl, h1⟩, rfl⟩, h3⟩, h4⟩, h5⟩, h6⟩ := h
      exact sn_zp g.calm (g.gl h1) (k.none g (by decide)) (g.gl h3) (k.none g (by decide)) (ih.a g h6) (star_cons h4 _ _) (star_any (by simp [h5]))
    · cases h
  | sl a l hh =>
    simp only [chkN] at h
    split at h
    · simp only [Bool.and_eq_true] at h
      exact sn_sl (ih.e g h.1.1) (ih.o g h.1.2) (ih.o g h.2)
    · cases h
  | sl2 a l =>
    simp only [chkN] at h
    split at h
    · simp only [Bool.and_eq_true, decide_eq_true_eq] at h
      obtain ⟨⟨rfl, h1⟩, h2⟩ := h
      exact sn_sl2 (ih.e g h1) (ih.e g h2)
    · cases h
  | srd a =>
    simp only [chkN] at h
    split at h
    · simp only [Bool.and_eq_true, decide_eq_true_eq] at h
      obtain ⟨⟨⟨rfl, h1⟩, h2⟩, h3⟩ := h
      exact sn_srd (q := ⟨0, 0, 0, 0⟩) (ih.e g h3) (g.gl h1) (k.none g (by decide)) g.hu (star_cons h2 _ _) rfl
    · cases h
theorem isTup_tg {tg : Expr} (h : isTup tg = true) : ∃ es k p, tg = .Tuple es k p := by
  cases tg <;> first | exact ⟨_, _, _, rfl⟩ | (simp [isTup] at h; done)
theorem snd_i (k : Know C Γ lv) (ih : Snd C Γ lv Nm n) (g : Gd C lv X sc own Nm W) {a : It} {tg e : Expr} (h : chkI Γ Nm (n + 1) sc a tg e = true) : PI X tg e (eI X (zOf C Γ lv) W a) := by
  cases a with
  | seq a =>
    simp only [chkI] at h
    exact si_seq (ih.e g h)
  | rng as =>
    simp only [chkI] at h
    split at h
    · simp only [Bool.and_eq_true, decide_eq_true_eq] at h
      obtain ⟨⟨⟨⟨rfl, h1⟩, h2⟩, h3⟩, h4⟩ := h
      exact si_range1 (g.gl h1) (k.none g (by decide)) (ih.a g h4) (star_cons h3 _ _) h2
    · simp only [Bool.and_eq_true, decide_eq_true_eq] at h
      obtain ⟨⟨⟨⟨⟨rfl, h1⟩, h2⟩, h3⟩, h3'⟩, h4⟩ := h
      exact si_range2 (g.gl h1) (k.none g (by decide)) (ih.a g h4) (by rw [star_cons h3, star_cons h3']; rfl) (by rw [star_cons h3']; rfl) h2
    · simp only [Bool.and_eq_true, decide_eq_true_eq] at h
      obtain ⟨⟨⟨⟨⟨⟨rfl, h1⟩, h2⟩, h3⟩, h3'⟩, h3''⟩, h4⟩ := h
      exact si_range3 (g.gl h1) (k.none g (by decide)) (ih.a g h4) (star_cons h3 _ _) (star_any (by simp [h3', h3''])) h2
    · cases h
  | zip as =>
    simp only [chkI] at h
    split at h
    · simp only [Bool.and_eq_true, decide_eq_true_eq] at h
      obtain ⟨⟨⟨⟨⟨⟨h0, rfl⟩, h1⟩, h2⟩, h3⟩, h5⟩, h4⟩ := h
      obtain ⟨es, kk, p, rfl⟩ := isTup_tg h0
      exact si_zip (g.gl h1) (k.none g (by decide)) (ih.a g h4) (star_cons h2 _ _) (star_any (by simp [h3])) h5
    · simp only [Bool.and_eq_true, decide_eq_true_eq] at h
      obtain ⟨⟨⟨⟨⟨⟨⟨h0, rfl⟩, h1⟩, h2⟩, h3⟩, h3'⟩, h5⟩, h4⟩ := h
      obtain ⟨es, kk, p, rfl⟩ := isTup_tg h0
      exact si_zip3 (g.gl h1) (k.none g (by decide)) (ih.a g h4) (star_cons h2 _ _) (star_any (by simp [h3, h3'])) h5
    · cases h
  | str a =>
    simp only [chkI] at h
    exact si_str (ih.e g h)
  | enum a =>
    simp only [chkI] at h
    split at h
    · simp only [Bool.and_eq_true, decide_eq_true_eq] at h
      obtain ⟨⟨⟨⟨h0, rfl⟩, h1⟩, h2⟩, h3⟩ := h
      obtain ⟨es, kk, p, rfl⟩ := isTup_tg h0
      exact si_enum (g.gl h1) (k.none g (by decide)) (ih.a g h3) (star_cons h2 _ _)
    · cases h
theorem snd0 (Γ : Gam) (Nm : List Str) : Snd C Γ lv Nm 0 := ⟨fun _ h => by simp [chkE] at h, fun _ h => by simp [chkO] at h, fun _ h => by simp [chkT] at h, fun _ h => by simp [chkA] at h, fun _ h => by simp [chkN] at h, fun _ h => by simp [chkI] at h⟩
theorem snd' : ∀ (n lv : Nat), (∀ l, l ≤ lv → Know C Γ l) → Snd C Γ lv Nm n
  | 0, lv, _ => snd0 Γ Nm
  | n + 1, lv, K =>
    have ih := snd' n lv K
    have k := K lv (Nat.le_refl _)
    have dn : ∀ l, lv = l + 2 → Snd C Γ l Nm n := fun l e => snd' n l fun j hj => K j (by omega)
    ⟨fun g h => snd_e k ih dn g h, fun g h => snd_o k ih g h, fun g h => snd_t k ih g h, fun g h => snd_a k ih g h, fun g h => snd_m k ih g h, fun g h => snd_i k ih g h⟩
/-- the walk's knowledge at a level: of this and of all lower ones -/
structure Knows (C : Ctx) (Γ : Gam) (lv : Nat) : Prop extends Know C Γ lv where
  all : ∀ l, l ≤ lv → Know C Γ l
theorem snd (k : Knows C Γ lv) (n : Nat) : Snd C Γ lv Nm n := snd' n lv k.all
end
end LR

set_option Elab.async false
set_option linter.all false
set_option maxRecDepth 100000
set_option maxHeartbeats 4000000
namespace LR
open PySem PySem.Spec PyProof.Rows L2
/-! ### stores that are swapped, and that are not -/
def swP (sc : Scope) (ts vs : List Expr) : Option (Option (List Str)) :=
  if (!(ts.length == 2 || ts.length == 3) || vs.length != ts.length) = true then some none else
  if (vs.any fun | .Starred .. => true | _ => false) = true then some none else
  if ((ts.filterMap fun
    | .Name id pos => if sc.names.lookup id == some .local && pos.line == (ts.head?.map (·.pos.line)).getD 0 then some id else none
    | _ => none).length != ts.length || (ts.filterMap fun
    | .Name id pos => if sc.names.lookup id == some .local && pos.line == (ts.head?.map (·.pos.line)).getD 0 then some id else none
    | _ => none).eraseDups.length != (ts.filterMap fun
    | .Name id pos => if sc.names.lookup id == some .local && pos.line == (ts.head?.map (·.pos.line)).getD 0 then some id else none
    | _ => none).length) = true then some none else
  if vs.all (foldedForSure 8) = true then some none else
  if vs.all (constantsAlone 8) = true then none else some (some (ts.filterMap fun
    | .Name id pos => if sc.names.lookup id == some .local && pos.line == (ts.head?.map (·.pos.line)).getD 0 then some id else none
    | _ => none))
theorem swP_ok {sc : Scope} {ts vs : List Expr} {env : Env} {r : Option (List Str)} {k k' : Nat} {p p' : Pos} (hs : env.scope = sc) (hk : sc.kind = .function) (h : swP sc ts vs = some r) : swappedStores [.Tuple ts k p] (.Tuple vs k' p') env = pure r := by
  subst hs
  have hb : (env.blockKind != .function) = false := by
    unfold Env.blockKind
    rw [hk]
    rfl
  unfold swappedStores
  simp only [hb, Bool.or_false]
  unfold swP at h
  by_cases c1 : (!(ts.length == 2 || ts.length == 3) || vs.length != ts.length) = true
  · rw [if_pos c1] at h
    cases h
    exact if_pos c1
  · rw [if_neg c1] at h
    refine (if_neg c1).trans ?_
    split at h
    · rename_i c2
      cases h
      exact if_pos c2
    · rename_i c2
      refine (if_neg c2).trans ?_
      split at h
      · rename_i c3
        cases h
        exact if_pos c3
      · rename_i c3
        refine (if_neg c3).trans ?_
        split at h
        · rename_i c4
          cases h
          exact if_pos c4
        · rename_i c4
          refine (if_neg c4).trans ?_
          split at h
          · cases h
          · rename_i c5
            cases h
            exact if_neg c5
theorem sole_sw {t e : Expr} {l : Nat} {env : Env} (h : notComp e = true) : swapsWithSole [t] e l env = pure false := by
  unfold swapsWithSole
  exact comp_sw h
theorem asg_sub {o e : Expr} {pos : Pos} {env : Env} (h : notSlice e = true) (v : Value) : assign (.Subscript o e pos) env v = (do
      let ov ← holding [v] (eval o env)
      let iv ← holding [v, ov] (eval e env)
      standAt pos
      holding [v, ov, iv] (setItem ov iv v)
      release [v, ov, iv] []) := by
  cases e <;> first | rfl | (simp [notSlice] at h; done)
def simpleTg : Expr → Bool
  | .Name _ _ => true
  | .Subscript _ _ _ => true
  | .Attribute _ _ _ => true
  | _ => false
theorem sw_simple {tg e : Expr} {env : Env} (h : simpleTg tg = true) : swappedStores [tg] e env = pure none := by
  cases tg <;> first | rfl | (simp [simpleTg] at h; done)
def notTup : Expr → Bool
  | .Tuple _ _ _ => false
  | _ => true
theorem sw_notTup {tg e : Expr} {env : Env} (h : notTup e = true) : swappedStores [tg] e env = pure none := by
  unfold swappedStores
  split
  · rename_i heq
    split at heq
    · simp [notTup] at h
    · simp [notTup] at h
    · cases heq
  · rfl
def noSw (sc : Scope) (es : List Expr) (e : Expr) : Bool := notTup e || (match e with
  | .Tuple vs _ _ => (match swP sc es vs with
    | some none => true
    | _ => false)
  | _ => false)
theorem noSw_ok {sc : Scope} {es : List Expr} {e : Expr} {env : Env} {k : Nat} {p : Pos} (hs : env.scope = sc) (hk : sc.kind = .function) (h : noSw sc es e = true) : swappedStores [.Tuple es k p] e env = pure none := by
  unfold noSw at h
  rcases Bool.or_eq_true_iff.mp h with h | h
  · exact sw_notTup h
  · split at h
    · split at h
      · rename_i c
        exact swP_ok hs hk c
      · cases h
    · cases h
/-! ### try .. except X as n: return e, for exceptions of told classes -/
def xev (l : List (Str × Bool)) (n : Str) (sc : Scope) : Nat → Expr → Option D
  | 0, _ => none
  | k + 1, e => match e with
    | .Constant (.str s) _ _ => some (.str s)
    | .Call (.Name f _) [.Name a _, .Name c _] [] _ => if decide (f = "isinstance") && LR.gl sc f && decide (a = n) && LR.gl sc c && okN c then (tab c l).map .bl else none
    | .IfExp t a b _ => if valTest t then (match xev l n sc k t with
      | some (.bl true) => xev l n sc k a
      | some (.bl false) => xev l n sc k b
      | _ => none) else none
    | .BinOp a .Add b _ => (match xev l n sc k a, xev l n sc k b with
      | some (.str s), some (.str t) => if s.length + t.length ≤ lim then some (.str (s ++ t)) else none
      | _, _ => none)
    | _ => none
section
variable {X : Cx} {a : Addr} {oe : Obj} {pn : List (Addr × Obj)} {A : Addr} {y n : Str} {l : List (Str × Bool)} {i : Nat} {sc : Scope}
theorem xev_ok {dO : Option Addr} (F : XcH X.K X.mg y l A) (hz : L2N.Zn (.ref A) dO oe) (hf : ∃ vs, oe.data = .fields vs) (blt : X.mg "isinstance" = none) (hN : X.N[i]? = some n) (hln : lo sc n = true) (hsc : X.env.scope = sc) (okn : okN n = true) :
    ∀ (k : Nat) (e : Expr) (d : D), xev l n sc k e = some d → ∃ v, (∀ w, Rv X.K w v d) ∧ PE (X.suite a ((a, oe) :: pn)) e (fun σ H Q => exPre i a dO σ H ∧ Q v H)
  | 0, e, d, h => by simp [xev] at h
  | k + 1, e, d, h => by
    have gl' : ∀ {x : Str}, LR.gl sc x = true → Gl (X.suite a ((a, oe) :: pn)) x := fun {x} h => by
      show X.env.kindOf x = _
      unfold Env.kindOf
      rw [hsc]
      exact gl_ok h
    unfold xev at h
    split at h
    · rename_i s j p
      cases h
      exact ⟨.str s, fun w => .str s, pe_imp pe_str fun σ H Q q => q.2⟩
    · rename_i f p1 a' p2 c p3 p4
      split at h
      · rename_i hc
        simp only [Bool.and_eq_true, decide_eq_true_eq] at hc
        obtain ⟨⟨⟨⟨rfl, h1⟩, rfl⟩, h2⟩, h3⟩ := hc
        obtain ⟨b, hb, rfl⟩ := Option.map_eq_some_iff.mp h
        obtain ⟨C', hg, hk, _⟩ := F.of c b (tab_mem hb)
        obtain ⟨k1, k2, k3⟩ := okN_ok okn
        obtain ⟨m1, m2, m3⟩ := okN_ok h3
        refine ⟨.bl b, fun w => .bl b, pe_imp (pe_callB (X := X.suite a ((a, oe) :: pn)) (call_isD F.cc hz.zc hf) (gl' h1) blt boot_isinstance
          (pa_cons (pe_var (X := X.suite a ((a, oe) :: pn)) hN (by show Vis X.env.scope _; rw [hsc]; exact .inl (lo_ok hln)) k1 k2) (pa_cons (pe_glob (X := X.suite a ((a, oe) :: pn)) (v := .ref C') (gl' h2) hg rfl m1) pa_nil rfl) rfl) (by decide) (by decide) rfl rfl) fun σ H Q q => ?_⟩
        exact ⟨_, q.1.1, q.1.2, .ref C', .ref C', b, rfl, fun u hu => hu, hk, q.2⟩
      · cases h
    · rename_i t e1 e2 p
      split at h
      · rename_i hv
        split at h
        · rename_i ht
          obtain ⟨vt, rt, pt⟩ := xev_ok F hz hf blt hN hln hsc okn k t _ ht
          obtain ⟨va, ra, pa⟩ := xev_ok F hz hf blt hN hln hsc okn k e1 _ h
          have et := rt ⟨fun _ => none, [], [], []⟩
          cases et
          refine ⟨va, ra, pe_imp (pe_ifExp (pt_val pt (val_test hv)) pa (tb := fun _ _ _ => False) ⟨fun _ _ _ _ _ _ q => q.elim⟩) fun σ H Q q => ?_⟩
          exact ⟨q.1, true, rfl, iteT ⟨q.1, q.2⟩⟩
        · rename_i ht
          obtain ⟨vt, rt, pt⟩ := xev_ok F hz hf blt hN hln hsc okn k t _ ht
          obtain ⟨va, ra, pa⟩ := xev_ok F hz hf blt hN hln hsc okn k e2 _ h
          have et := rt ⟨fun _ => none, [], [], []⟩
          cases et
          refine ⟨va, ra, pe_imp (pe_ifExp (pt_val pt (val_test hv)) (ta := fun _ _ _ => False) ⟨fun _ _ _ _ _ _ q => q.elim⟩ pa) fun σ H Q q => ?_⟩
          exact ⟨q.1, false, rfl, iteF ⟨q.1, q.2⟩⟩
        · cases h
      · cases h
    · rename_i e1 e2 p
      split at h
      · rename_i s t h1 h2
        split at h
        · rename_i hz2
          cases h
          obtain ⟨v1, r1, p1⟩ := xev_ok F hz hf blt hN hln hsc okn k e1 _ h1
          obtain ⟨v2, r2, p2⟩ := xev_ok F hz hf blt hN hln hsc okn k e2 _ h2
          have et := r1 ⟨fun _ => none, [], [], []⟩
          have eu := r2 ⟨fun _ => none, [], [], []⟩
          cases et
          cases eu
          exact ⟨.str (s ++ t), fun w => .str _, pe_imp (pe_op op_add_str p1 p2) fun σ H Q q => ⟨q.1, q.1, s, t, rfl, rfl, le_line hz2, q.2⟩⟩
        · cases h
      · cases h
    · cases h
end
section
variable {X : Cx} {Z : Ec} {W : WX}
theorem ss_tri {x n : Str} {i : Nat} {cv : Value} {body : List Stmt} {sb : S} {tb : List (Str × D)} {e : Expr} {rp np hp pos : Pos} (hs : X.stack = X.env :: X.outer) (hf : X.env.frame = some X.env.locals) (hNd : X.N.Nodup) (hi : X.N[i]? = some n) (hln : X.env.kindOf n = some .local) (hc : Names X x cv) (tk : L2N.Takes X W)
    (hb : ∀ (W' : WX) (pn : List (Addr × Obj)) (xe : Value → Shared → Prop), L2N.Takes (X.tr pn xe) W' → PassesOwn (model X.prog X.w) X.A X.env xe → PSs (X.tr pn xe) body (eS (X.tr pn xe) Z W' sb))
    (hx : ∀ y d, tab y tb = some d → ∃ l A v, XcH X.K X.mg y l A ∧ PySem.W.exmOne X.K (.ref A) cv = some true ∧ (∀ w, Rv X.K w v d) ∧ ∀ (a : Addr) (oe : Obj) (pn : List (Addr × Obj)) (dO : Option Addr), L2N.Zn (.ref A) dO oe → (∃ vs, oe.data = .fields vs) → PE (X.suite a ((a, oe) :: pn)) e (fun σ H Q => exPre i a dO σ H ∧ Q v H)) :
    PS X (.Try body [.ExceptHandler (some (.Name x np)) (some n) [.Return (some e) rp] hp] [] [] pos) (eS X Z W (.tri sb tb)) := by
  refine ps_imp (L2N.ps_try_as (tb := fun W' => eS X Z W' sb) (ts := fun (a : Addr) (cls : Value) (d : Option Addr) (D : Ends) (σ : L2.St) (H : Hp) => XDH d H ∧ (∃ σ0 : L2.St, σ = σ0.set i (some (V.ref a))) ∧ ∃ (y : Str) (dd : LR.D), tab y tb = some dd ∧ X.mg y = some cls ∧ ∀ v : V, (∀ w, Rv X.K w v dd) → D.rt v H) hs hf hNd hi hln hc tk hb (fun a oe cls d pn hz hfl => ?_)) fun D σ H ⟨w, s, hw, rm, rs, p⟩ => ?_
  · refine ⟨fun pins s σ H D I ⟨hd, ⟨σ0, hσ⟩, y, dd, ht, hm, q⟩ => ?_⟩
    obtain ⟨l, A, v, F, hex, hv, hpe⟩ := hx y dd ht
    have hcls : cls = .ref A := Option.some.inj (hm.symm.trans F.g)
    subst hcls hσ
    refine (pss_one (ps_ret (hpe a oe pn d hz hfl))).run pins s _ H D I ⟨⟨?_, hd⟩, q v hv⟩
    have hl := I.len
    rw [List.length_set] at hl
    have hil : i < X.N.length := (List.getElem?_eq_some_iff.mp hi).1
    have hl2 : σ0.length = X.N.length := hl
    rw [List.getElem?_set_self (by omega)]
  · subst hw
    simp only [evS] at p
    refine ⟨w, s, rfl, rm, rs, ?_⟩
    cases hr : evS Z.G Z.cl sb s w.m with
    | err => rw [hr] at p; exact p
    | ok f m =>
      rw [hr] at p
      cases f with
      | nx s => exact p
      | rt d => exact p
      | bk s => exact p
    | exc x m =>
      rw [hr] at p
      simp only at p
      cases ht : tab x.cls tb with
      | none => rw [ht] at p; exact p.elim
      | some d =>
        rw [ht] at p
        have p : PostS X.K Z.cn X.mg D W w (.ok (.rt d) m) := p
        intro w' σ' cls dO hm rm' fr hg hfs
        obtain ⟨l, A, v, F, hex, hv, hpe⟩ := hx x.cls d ht
        have hcls : cls = .ref A := Option.some.inj (hg.symm.trans F.g)
        subst hcls
        exact ⟨true, hex, fun _ a ha => ⟨hfs.h, ⟨σ', rfl⟩, x.cls, d, ht, hg, fun v' hv' => p w' v' hm rm' fr (hv' w')⟩, fun q => Bool.noConfusion q⟩
end
theorem ss_trf {X : Cx} {Z : Ec} {W : WX} {x n c c1 f : Str} {i j : Nat} {sc : Scope} {body : List Stmt} {sb : S} {rp np hp pos p1 p2 p3 p4 p5 p6 p7 p8 p9 p10 p11 p12 p13 : Pos} {l : List (Str × Bool)} {A : Addr} {D : SupD} (hs : X.stack = X.env :: X.outer) (hf : X.env.frame = some X.env.locals) (hNd : X.N.Nodup) (hi : X.N[i]? = some n) (hln : lo sc n = true) (hsc : X.env.scope = sc) (okn : okN n = true)
    (gx : Gl X x) (okx : (x == ("__debug__" : Str)) = false) (tk : L2N.Takes X W)
    (hb : ∀ (W' : WX) (pn : List (Addr × Obj)) (xe : Value → Shared → Prop), L2N.Takes (X.tr pn xe) W' → PassesOwn (model X.prog X.w) X.A X.env xe → PSs (X.tr pn xe) body (eS (X.tr pn xe) Z W' sb))
    (F : XcH X.K X.mg c l A) (S : SupF X.prog X.K X.mg A f D) (hx : (x, true) ∈ l) (h1 : (c1, true) ∈ l) (blt : X.mg "isinstance" = none) (bv : X.mg "ValueError" = none) (gi : LR.gl sc "isinstance" = true) (gc1 : LR.gl sc c1 = true) (ok1 : okN c1 = true) (gv : LR.gl sc "ValueError" = true) :
    PS X (.Try body [.ExceptHandler (some (.Name x np)) (some n) [.Return (some (.IfExp (.BoolOp .And [.Call (.Name "isinstance" p1) [.Name n p2, .Name c1 p3] [] p4, .Call (.Name "isinstance" p5) [.Name n p6, .Name "ValueError" p7] [] p8] p9) (.Attribute (.Name n p10) f p11) (.Constant .none j p12) p13)) rp] hp] [] [] pos) (eS X Z W (.trf sb c f)) := by
  obtain ⟨C', hg, _, hex⟩ := F.of x true hx
  have hlk : X.env.kindOf n = some .local := by
    unfold Env.kindOf
    rw [hsc]
    exact lo_ok hln
  refine ps_imp (L2N.ps_try_as (tb := fun W' => eS X Z W' sb) (ts := fun (a : Addr) (cls : Value) (d : Option Addr) (D : Ends) (σ : L2.St) (H : Hp) => cls = .ref A ∧ (∃ σ0 : L2.St, σ = σ0.set i (some (V.ref a))) ∧ ∃ (dx : Addr) (fs : List (Str × V)) (v : V), d = some dx ∧ H dx = some (.xd fs) ∧ fs.lookup f = some v ∧ D.rt v H) hs hf hNd hi hlk ⟨gx, okx, .inl hg⟩ tk hb (fun a oe cls d pn hz hfl => ?_)) fun D σ H ⟨w, s, hw, rm, rs, p⟩ => ?_
  · refine ⟨fun pins s σ H D I ⟨hcls, ⟨σ0, hσ⟩, dx, fs, v, hd, hH, hlk2, q⟩ => ?_⟩
    subst hcls hσ hd
    have glS : ∀ {y : Str}, LR.gl sc y = true → Gl (X.suite a ((a, oe) :: pn)) y := fun {y} h => by
      show X.env.kindOf y = _
      unfold Env.kindOf
      rw [hsc]
      exact gl_ok h
    obtain ⟨k1, k2, k3⟩ := okN_ok okn
    have pn' : ∀ {q : Pos}, PE (X.suite a ((a, oe) :: pn)) (.Name n q) (tVar i) := fun {q} => pe_var (X := X.suite a ((a, oe) :: pn)) hi (by show Vis X.env.scope _; rw [hsc]; exact .inl (lo_ok hln)) k1 k2
    obtain ⟨C1, hg1, hk1, _⟩ := F.of c1 true h1
    have is1 : PE (X.suite a ((a, oe) :: pn)) (.Call (.Name "isinstance" p1) [.Name n p2, .Name c1 p3] [] p4) _ := pe_callB (X := X.suite a ((a, oe) :: pn)) (call_isD F.cc hz.zc hfl) (glS gi) blt boot_isinstance
      (pa_cons pn' (pa_cons (pe_glob (X := X.suite a ((a, oe) :: pn)) (v := .ref C1) (glS gc1) hg1 rfl (okN_ok ok1).1) pa_nil rfl) rfl) (by decide) (by decide) rfl rfl
    have is2 : PE (X.suite a ((a, oe) :: pn)) (.Call (.Name "isinstance" p5) [.Name n p6, .Name "ValueError" p7] [] p8) _ := pe_callB (X := X.suite a ((a, oe) :: pn)) (call_isD F.cc hz.zc hfl) (glS gi) blt boot_isinstance
      (pa_cons pn' (pa_cons (pe_bltn (X := X.suite a ((a, oe) :: pn)) (v := .ty "ValueError") (glS gv) bv PyProof.Rows.Boot.«ValueError» rfl (by decide) (by decide)) pa_nil rfl) rfl) (by decide) (by decide) rfl rfl
    have fl : PE (X.suite a ((a, oe) :: pn)) (.Attribute (.Name n p10) f p11) _ := pe_xf (X := X) (C := A) (d := some dx) ⟨F.cc.hg, F.cc.hk, F.cc.hs, F.cc.hd⟩ S.nof hz.zc hfl pn' rfl
    refine (pss_one (ps_ret (pe_ifExp (PW.pt (pw_and (pt_val is1 (val_test rfl)) (pw_and1 (pt_val is2 (val_test rfl))))) fl pe_non))).run pins s _ H D I ?_
    have hl := I.len
    rw [List.length_set] at hl
    have hil : i < X.N.length := (List.getElem?_eq_some_iff.mp hi).1
    have hl2 : σ0.length = X.N.length := hl
    have hσi : (σ0.set i (some (V.ref a)))[i]? = some (some (V.ref a)) := by rw [List.getElem?_set_self (by omega)]
    have hXD : XDH (some dx) H := fun dy e => by cases e; exact ⟨fs, hH⟩
    refine ⟨_, hσi, hXD, .ref C1, .ref C1, true, rfl, fun u hu => hu, hk1, true, rfl, ?_⟩
    refine ⟨_, hσi, hXD, .ty "ValueError", .type "ValueError", true, rfl, fun u hu => hu, S.kv, true, rfl, ?_⟩
    exact ⟨_, hσi, rfl, rfl, dx, fs, v, rfl, hH, hlk2, q⟩
  · subst hw
    simp only [evS] at p
    refine ⟨w, s, rfl, rm, rs, ?_⟩
    cases hr : evS Z.G Z.cl sb s w.m with
    | err => rw [hr] at p; exact p
    | ok fl m =>
      rw [hr] at p
      cases fl with
      | nx s => exact p
      | rt d => exact p
      | bk s => exact p
    | exc x' m =>
      rw [hr] at p
      simp only at p
      by_cases hc : x'.cls = c
      · rw [if_pos hc] at p
        cases hlk : x'.fs.lookup f with
        | none => rw [hlk] at p; exact p.elim
        | some d =>
          rw [hlk] at p
          have p : PostS X.K Z.cn X.mg D W w (.ok (.rt d) m) := p
          intro w' σ' cls dO hm rm' fr hg' hfs
          rw [hc] at hg'
          have hcls : cls = .ref A := Option.some.inj (hg'.symm.trans F.g)
          subst hcls
          rcases hfs with ⟨e, _⟩ | ⟨dx, fs', _, rfl, hH, rf⟩
          · rw [e] at hlk; cases hlk
          · rcases RFs.look f rf with ⟨_, h4⟩ | ⟨v, d', h3, h4, h5⟩
            · rw [h4] at hlk; cases hlk
            · rw [h4] at hlk
              cases hlk
              exact ⟨true, hex, fun _ a ha => ⟨rfl, ⟨σ', rfl⟩, dx, fs', v, rfl, hH, h3, p w' v hm rm' fr h5⟩, fun q => Bool.noConfusion q⟩
      · rw [if_neg hc] at p
        exact p.elim
def eqFl : D → D → Bool
  | .bl a, .bl b => a == b
  | .str a, .str b => decide (a = b)
  | _, _ => false
theorem eqFl_ok {a b : D} (h : eqFl a b = true) : a = b := by
  unfold eqFl at h
  split at h
  · rw [eq_of_beq h]
  · rw [of_decide_eq_true h]
  · cases h
def xevB (l : List (Str × Bool)) (m : Str) (sc : Scope) (e : Expr) (d : D) : Bool := match xev l m sc 20 e with
  | some d' => eqFl d' d
  | none => false
theorem xevB_ok {l : List (Str × Bool)} {m : Str} {sc : Scope} {e : Expr} {d : D} (h : xevB l m sc e d = true) : xev l m sc 20 e = some d := by
  unfold xevB at h
  split at h
  · rename_i d' e'
    rw [e', eqFl_ok h]
  · cases h
def flatD : D → Bool
  | .bl _ => true
  | .str _ => true
  | _ => false
/-! ### the check of the statements -/
/-- a captured name: no swap with a comprehension -/
def cellTg (sc : Scope) : Expr → Bool
  | .Name x _ => (match sc.names.lookup x with
    | some .cell => true
    | _ => false)
  | _ => false
theorem cell_sw {X : Cx} {sc : Scope} {tg e : Expr} {l : Nat} (hsc : X.env.scope = sc) (h : cellTg sc tg = true) : swapsWithSole [tg] e l X.env = pure false := by
  unfold cellTg at h
  split at h
  · rename_i x p
    split at h
    · rename_i hx
      have hk : X.env.kindOf x = some .cell := by unfold Env.kindOf; rw [hsc]; exact hx
      unfold swapsWithSole swapsWith
      have hcl : (NameKind.cell == NameKind.local) = false := rfl
      have hcs : ((some NameKind.cell : Option NameKind) == some NameKind.local) = false := rfl
      cases e <;> first | rfl | (simp only [hk, hcs, Bool.and_false, Bool.false_and])
    · cases h
  · cases h
section
variable (Γ : Gam) (Nm : List Str)
def chkG (n : Nat) (sc : Scope) (t : Tg) (e : Expr) : Bool := match t with
  | .nm i => (match e with
    | .Name x _ => nmAt Nm i x && lc sc x
    | _ => false)
  | .ix o i => (match e with
    | .Subscript e1 e2 _ => notSlice e2 && chkE Γ Nm n sc o e1 && chkE Γ Nm n sc i e2
    | _ => false)
  | .dk o i => (match e with
    | .Subscript e1 e2 _ => notSlice e2 && chkE Γ Nm n sc o e1 && chkE Γ Nm n sc i e2
    | _ => false)
def chkGs (n : Nat) (sc : Scope) : List Tg → List Expr → Bool
  | [], [] => true
  | t :: ts, e :: es => notStar e && chkG Γ Nm n sc t e && chkGs n sc ts es
  | _, _ => false
def chkLc (n : Nat) (sc : Scope) (i : Nat) (a : E) (tg e : Expr) : Bool := match a with
  | .nl _ (.comp a tp vs it c) => (match tg with
    | .Name y py => (match e with
      | .ListComp e1 [⟨g, iter, ifs, 0⟩] scope pos => nmAt Nm i y && lo sc y && (py.line == pos.line) && !(scope.names.any fun (n, k) => n == y && (k == .local || k == .cell)) &&
        chkI Γ Nm n sc it g iter && blkCL Nm sc scope (ownOf Nm vs) && chkTg Nm (relS scope sc) (fun x => scope.names.lookup x == some .cell) tp vs g && notSet iter && chkE Γ Nm n (relS scope sc) a e1 && (match ifs with
        | [] => c.isNop
        | [t] => !c.isNop && chkT Γ Nm n (relS scope sc) c t
        | _ => false)
      | _ => false)
    | _ => false)
  | _ => false
def chkAsg (n : Nat) (sc : Scope) (t : Tg) (a : E) (tg e : Expr) : Bool := ((notComp e || cellTg sc tg) && simpleTg tg && chkG Γ Nm n sc t tg && chkE Γ Nm n sc a e) || (match t with
  | .nm i => chkLc Γ Nm n sc i a tg e
  | _ => false)
def parOk (sc : Scope) (is : List Nat) (es vs : List Expr) : Bool := match es, is, vs with
  | [.Name x px, .Name y py], [i, j], [e1, e2] => nmAt Nm i x && nmAt Nm j y && decide (i ≠ j) && lo sc x && lo sc y && decide (swP sc [.Name x px, .Name y py] [e1, e2] = some (some [x, y]))
  | [.Name x px, .Name y py, .Name z pz], [i, j, l], [e1, e2, e3] => nmAt Nm i x && nmAt Nm j y && nmAt Nm l z && decide (i ≠ j) && decide (i ≠ l) && decide (j ≠ l) && lo sc x && lo sc y && lo sc z && decide (swP sc [.Name x px, .Name y py, .Name z pz] [e1, e2, e3] = some (some [x, y, z]))
  | _, _, _ => false
mutual
def chkS : Nat → Scope → S → Stmt → Bool
  | 0, _, _, _ => false
  | n + 1, sc, s, st => match s with
    | .asg t a => (match st with
      | .Assign [tg] e _ => chkAsg Γ Nm n sc t a tg e
      | _ => false)
    | .tpl ts a => (match st with
      | .Assign [.Tuple es _ _] e _ => notComp e && decide (ts.length = es.length) && noSw sc es e && chkGs Γ Nm n sc ts es && chkE Γ Nm n sc a e
      | _ => false)
    | .par is as => (match st with
      | .Assign [.Tuple es _ _] (.Tuple vs _ _) _ => parOk Nm sc is es vs && chkA Γ Nm n sc as vs
      | _ => false)
    | .exp a => (match st with
      | .Expr e _ => notComp e && chkE Γ Nm n sc a e
      | _ => false)
    | .ret a => (match st with
      | .Return (some e) _ => chkE Γ Nm n sc a e
      | _ => false)
    | .ite c a b => (match st with
      | .If e s1 s2 _ => chkT Γ Nm n sc c e && chkSs n sc a s1 && chkSs n sc b s2
      | _ => false)
    | .loop tp vs it b => (match st with
      | .For tg e s1 [] _ => chkI Γ Nm n sc it tg e && chkTg Nm sc (fun _ => true) tp vs tg && notSet e && chkSs n sc b s1
      | _ => false)
    | .lop tp vs a b => (match st with
      | .For tg e s1 [] _ => chkE Γ Nm n sc a e && chkTg Nm sc (fun _ => true) tp vs tg && notSet e && chkSs n sc b s1
      | _ => false)
    | .whl c b => (match st with
      | .While e s1 [] _ => chkT Γ Nm n sc c e && chkSs n sc b s1
      | _ => false)
    | .brk => (match st with
      | .Break _ => true
      | _ => false)
    | .never => true
    | .fas o C x a => (match st with
      | .Assign [.Attribute e1 y _] e _ => decide (x = y) && notComp e && fldOk Γ C x && chkE Γ Nm n sc o e1 && chkE Γ Nm n sc a e
      | _ => false)
    | .rse c => (match st with
      | .Raise (some (.Call (.Name x _) [.Constant (.str _) _ _] [] _)) none _ => decide (c = x) && gl sc x && okN x && (tab x Γ.exc).isSome
      | _ => false)
    | .rsx c f a => (match st with
      | .Raise (some (.Call (.Name x _) [e1] [] _)) none _ => decide (c = x) && gl sc x && okN x && notStar e1 && (match tab x Γ.xsi with
        | some p => decide (p.1 = f)
        | none => false) && chkE Γ Nm n sc a e1
      | _ => false)
    | .trf b c f => (match st with
      | .Try body [.ExceptHandler (some (.Name x _)) (some m) [.Return (some (.IfExp (.BoolOp .And [.Call (.Name f1 _) [.Name a1 _, .Name c1 _] [] _, .Call (.Name f2 _) [.Name a2 _, .Name c2 _] [] _] _) (.Attribute (.Name a3 _) f' _) (.Constant .none _ _) _)) _] _] [] [] _ =>
        gl sc x && okN x && lo sc m && okN m && nmAt Nm (Nm.idxOf m) m && decide (f1 = "isinstance") && decide (f2 = "isinstance") && gl sc f1 && decide (a1 = m) && decide (a2 = m) && decide (a3 = m) && gl sc c1 && okN c1 && decide (c2 = "ValueError") && gl sc c2 && decide (f' = f) && (match tab c Γ.xsi with
          | some p => decide (p.1 = f) && decide (tab x p.2 = some true) && decide (tab c1 p.2 = some true)
          | none => false) && chkSs n sc b body
      | _ => false)
    | .tri b tb => (match st with
      | .Try body [.ExceptHandler (some (.Name x _)) (some m) [.Return (some e) _] _] [] [] _ => gl sc x && okN x && lo sc m && okN m && nmAt Nm (Nm.idxOf m) m && !tb.isEmpty && chkSs n sc b body && tb.all fun (y, d) => (match tabX Γ y with
        | some l => decide (tab x l = some true) && xevB l m sc e d
        | none => false)
      | _ => false)
    | _ => false
def chkSs : Nat → Scope → S → List Stmt → Bool
  | 0, _, _, _ => false
  | n + 1, sc, s, sts => match s with
    | .nop => (match sts with
      | [] => true
      | _ => false)
    | .seq a b => (match a with
      | .frz _ => chkSs n sc b sts
      | a => (match sts with
        | st :: rest => chkS n sc a st && chkSs n sc b rest
        | _ => false))
    | _ => false
end
end
section
variable {C : Ctx} {Γ : Gam} {lv : Nat} {Nm : List Str} {n : Nat} {X : Cx} {sc : Scope} {W : WX}
/-- at a def's own level -/
structure Gs (C : Ctx) (n : Nat) (X : Cx) (sc : Scope) (Nm : List Str) (W : WX) : Prop extends Gd C n X sc (fun _ => true) Nm W where
  kind : sc.kind = .function
  pass : PassesOwn (model X.prog X.w) X.A X.env X.xe
  stk : X.stack = X.env :: X.outer
  frm : X.env.frame = some X.env.locals
theorem chkG_ok (k : Knows C Γ lv) (g : Gs C lv X sc Nm W) {t : Tg} {e : Expr} (h : chkG Γ Nm n sc t e = true) : PG X e (eG X (zOf C Γ lv) W t) := by
  cases t with
  | nm i =>
    simp only [chkG] at h
    split at h
    · simp only [Bool.and_eq_true] at h
      exact sg_nm (pg_name g.xnd (g.nm h.1) (g.lc h.2) (.inl (g.fnc _ rfl)))
    · cases h
  | ix o i =>
    simp only [chkG] at h
    split at h
    · simp only [Bool.and_eq_true] at h
      exact sg_ix ((snd k n).e g.toGd h.1.2) ((snd k n).e g.toGd h.2) fun v => asg_sub h.1.1 v
    · cases h
  | dk o i =>
    simp only [chkG] at h
    split at h
    · simp only [Bool.and_eq_true] at h
      exact sg_dk g.cP g.cw g.hu ((snd k n).e g.toGd h.1.2) ((snd k n).e g.toGd h.2) fun v => asg_sub h.1.1 v
    · cases h
theorem chkGs_ok (k : Knows C Γ lv) (g : Gs C lv X sc Nm W) : ∀ {ts : List Tg} {es : List Expr}, chkGs Γ Nm n sc ts es = true → PGs X es (eGs X (zOf C Γ lv) W ts) ∧ es.all notStar = true
  | [], [], _ => ⟨sgs_nil, rfl⟩
  | t :: ts, e :: es, h => by
    simp only [chkGs, Bool.and_eq_true] at h
    obtain ⟨h1, h2⟩ := chkGs_ok k g h.2
    exact ⟨sgs_cons (chkG_ok k g h.1.2) h1 (by rw [asg_cons h.1.1]; rfl), by rw [List.all_cons, h.1.1, h2]; rfl⟩
  | [], _ :: _, h => by simp [chkGs] at h
  | _ :: _, [], h => by simp [chkGs] at h
theorem chkLc_ok (k : Knows C Γ lv) (g : Gs C lv X sc Nm W) {i : Nat} {a : E} {tg e : Expr} {pos : Pos} (h : chkLc Γ Nm n sc i a tg e = true) : PS X (.Assign [tg] e pos) (eS X (zOf C Γ lv) W (.asg (.nm i) a)) := by
  unfold chkLc at h
  split at h
  · split at h
    · split at h
      · rename_i mt a tp vs it c y py e1 tg iter ifs scope p2
        simp only [Bool.and_eq_true, Bool.not_eq_true'] at h
        obtain ⟨⟨⟨⟨⟨⟨⟨⟨⟨a1, a2⟩, a3⟩, a4⟩, h1⟩, h2⟩, h3⟩, h4⟩, h5⟩, h6⟩ := h
        have hb := blkOk_by (blkCL_1 h2)
        rw [← g.hsc] at hb
        rw [← g.hN] at hb
        have hl := lo_ok a2
        rw [← g.hsc] at hl
        have hk := g.kind
        rw [← g.hsc] at hk
        refine ss_setLc own_of g.calm g.xnd (g.nm a1) hl (sw_true hk hl a3 a4) ((snd k n).i g.toGd h1) hb (fun s H A cl fp => chkTg_ok (g.blk s H scope (blkCL_2 h2) A cl fp) h3) (fun s H A cl fp => ?_) (fun s H A cl fp => (snd k n).e (g.blk s H scope (blkCL_2 h2) A cl fp) h5) (fun x => set_fold h4 x)
        unfold ttOf
        split at h6
        · rw [if_pos h6]
          exact pts_nil
        · simp only [Bool.and_eq_true, Bool.not_eq_true'] at h6
          rw [if_neg (by rw [h6.1]; exact Bool.false_ne_true)]
          exact pts_one ((snd k n).t (g.blk s H scope (blkCL_2 h2) A cl fp) h6.2)
        · cases h6
      · cases h
    · cases h
  · cases h
theorem chkAsg_ok (k : Knows C Γ lv) (g : Gs C lv X sc Nm W) {t : Tg} {a : E} {tg e : Expr} {pos : Pos} (h : chkAsg Γ Nm n sc t a tg e = true) : PS X (.Assign [tg] e pos) (eS X (zOf C Γ lv) W (.asg t a)) := by
  unfold chkAsg at h
  rcases Bool.or_eq_true_iff.mp h with h | h
  · simp only [Bool.and_eq_true] at h
    obtain ⟨⟨⟨h1, h2⟩, h3⟩, h4⟩ := h
    refine ss_asg ((snd k n).e g.toGd h4) (chkG_ok k g h3) ?_ (sw_simple h2) ?_
    · rcases Bool.or_eq_true_iff.mp h1 with h1 | h1
      · exact sole_sw h1
      · exact cell_sw g.hsc h1
    rw [asg_cons (by cases tg <;> first | rfl | (simp [simpleTg] at h2; done))]
    rfl
  · split at h
    · exact chkLc_ok k g h
    · cases h
theorem parOk_ok (k : Knows C Γ lv) (g : Gs C lv X sc Nm W) {is : List Nat} {es vs : List Expr} {as : Es} {kk k2 : Nat} {p p2 pos : Pos} (h : parOk Nm sc is es vs = true) (ha : PA X vs (eA X (zOf C Γ lv) W as)) : PS X (.Assign [.Tuple es kk p] (.Tuple vs k2 p2) pos) (eS X (zOf C Γ lv) W (.par is as)) := by
  unfold parOk at h
  split at h
  · simp only [Bool.and_eq_true, decide_eq_true_eq] at h
    obtain ⟨⟨⟨⟨⟨b1, b2⟩, b3⟩, b4⟩, b5⟩, b6⟩ := h
    have l4 := lo_ok b4
    have l5 := lo_ok b5
    rw [← g.hsc] at l4 l5
    exact ss_par g.calm g.xnd (g.nm b1) (g.nm b2) b3 l4 l5 ha (swP_ok g.hsc g.kind b6)
  · simp only [Bool.and_eq_true, decide_eq_true_eq] at h
    obtain ⟨⟨⟨⟨⟨⟨⟨⟨⟨b1, b2⟩, b3⟩, b4⟩, b5⟩, b6⟩, b7⟩, b8⟩, b9⟩, b10⟩ := h
    have l7 := lo_ok b7
    have l8 := lo_ok b8
    have l9 := lo_ok b9
    rw [← g.hsc] at l7 l8 l9
    exact ss_par3 g.calm g.xnd (g.nm b1) (g.nm b2) (g.nm b3) b4 b5 b6 l7 l8 l9 ha (swP_ok g.hsc g.kind b10)
  · cases h
structure SndS (C : Ctx) (Γ : Gam) (lv : Nat) (Nm : List Str) (n : Nat) : Prop where
  s : ∀ {X sc W s st}, Gs C lv X sc Nm W → chkS Γ Nm n sc s st = true → PS X st (eS X (zOf C Γ lv) W s)
  ss : ∀ {X sc W s sts}, Gs C lv X sc Nm W → chkSs Γ Nm n sc s sts = true → PSs X sts (eS X (zOf C Γ lv) W s)
theorem snd_s (k : Knows C Γ lv) (ih : SndS C Γ lv Nm n) (g : Gs C lv X sc Nm W) {s : S} {st : Stmt} (h : chkS Γ Nm (n + 1) sc s st = true) : PS X st (eS X (zOf C Γ lv) W s) := by
  cases s with
  | asg t a =>
    simp only [chkS] at h
    split at h
    · exact chkAsg_ok k g h
    · cases h
  | tpl ts a =>
    simp only [chkS] at h
    split at h
    · simp only [Bool.and_eq_true, decide_eq_true_eq] at h
      obtain ⟨⟨⟨⟨h1, h2⟩, h3⟩, h4⟩, h5⟩ := h
      obtain ⟨k1, k2⟩ := chkGs_ok k g h4
      obtain ⟨k3, k4⟩ := asg_len (env := X.env) k2
      exact ss_tpl g.calm ((snd k n).e g.toGd h5) k1 k3 k4 h2 (sole_sw h1) (noSw_ok g.hsc g.kind h3)
    · cases h
  | par is as =>
    simp only [chkS] at h
    split at h
    · simp only [Bool.and_eq_true] at h
      obtain ⟨h1, h2⟩ := h
      exact parOk_ok k g h1 ((snd k n).a g.toGd h2)
    · cases h
  | exp a =>
    simp only [chkS] at h
    split at h
    · simp only [Bool.and_eq_true] at h
      exact ss_exp ((snd k n).e g.toGd h.2) (comp_sw h.1)
    · cases h
  | ret a =>
    simp only [chkS] at h
    split at h
    · exact ss_ret ((snd k n).e g.toGd h)
    · cases h
  | ite c a b =>
    simp only [chkS] at h
    split at h
    · simp only [Bool.and_eq_true] at h
      exact ss_if ((snd k n).t g.toGd h.1.1) (ih.ss g h.1.2) (ih.ss g h.2)
    · cases h
  | loop tp vs it b =>
    simp only [chkS] at h
    split at h
    · simp only [Bool.and_eq_true] at h
      exact ss_for g.pass g.calm ((snd k n).i g.toGd h.1.1.1) (chkTg_ok g.toGd h.1.1.2) (ih.ss g h.2) (fun x => set_fold h.1.2 x)
    · cases h
  | lop tp vs a b =>
    simp only [chkS] at h
    split at h
    · simp only [Bool.and_eq_true] at h
      exact ss_lop g.pass g.calm ((snd k n).e g.toGd h.1.1.1) (chkTg_ok g.toGd h.1.1.2) (ih.ss g h.2) (fun x => set_fold h.1.2 x)
    · cases h
  | whl c b =>
    simp only [chkS] at h
    split at h
    · simp only [Bool.and_eq_true] at h
      exact ss_whl g.pass ((snd k n).t g.toGd h.1) (ih.ss g h.2)
    · cases h
  | brk =>
    simp only [chkS] at h
    split at h
    · exact ss_brk
    · cases h
  | never => exact ss_never
  | fas o C' x a =>
    simp only [chkS] at h
    split at h
    · simp only [Bool.and_eq_true, decide_eq_true_eq] at h
      obtain ⟨⟨⟨⟨rfl, h1⟩, h2⟩, h3⟩, h4⟩ := h
      obtain ⟨k1, k2⟩ := k.fld _ _ (fldOk_mem h2)
      rw [← g.K] at k1 k2
      exact ss_fas ((snd k n).e g.toGd h3) ((snd k n).e g.toGd h4) (comp_sw h1) k1 k2
    · cases h
  | nop => simp [chkS] at h
  | seq a b => simp [chkS] at h
  | rse c =>
    simp only [chkS] at h
    split at h
    · simp only [Bool.and_eq_true, decide_eq_true_eq] at h
      obtain ⟨⟨⟨rfl, h1⟩, h2⟩, h3⟩ := h
      obtain ⟨l, hl⟩ := Option.isSome_iff_exists.mp h3
      obtain ⟨A, F⟩ := k.exc _ l (tab_mem hl)
      rw [← g.K, ← g.mg] at F
      exact ss_rse g.calm g.tk PySem.F.excBase_ValueError F.ex F.g F.kp (raises_own F.sb F.ty) (g.gl h1) (okN_ok h2).1
    · cases h
  | rsx c f a =>
    simp only [chkS] at h
    split at h
    · simp only [Bool.and_eq_true, decide_eq_true_eq] at h
      obtain ⟨⟨⟨⟨⟨rfl, h1⟩, h2⟩, h3⟩, h4⟩, h5⟩ := h
      split at h4
      · rename_i p hp
        have h4 := of_decide_eq_true h4
        obtain ⟨A, D, F, S, B⟩ := k.xsi _ p.1 p.2 (tab_mem hp)
        rw [h4, ← g.P, ← g.K, ← g.mg] at S
        rw [← g.K] at B
        rw [← g.K, ← g.mg] at F
        exact ss_rsx g.calm g.tk S (g.room.mono g.lh1) B (g.gl h1) F.g ((snd k n).e g.toGd h5) (okN_ok h2).1 (star_cons h3 [] X.env)
      · cases h4
    · cases h
  | trf b c f =>
    simp only [chkS] at h
    split at h
    · simp only [Bool.and_eq_true, decide_eq_true_eq] at h
      obtain ⟨⟨⟨⟨⟨⟨⟨⟨⟨⟨⟨⟨⟨⟨⟨⟨⟨h1, h2⟩, h3⟩, h4⟩, h5⟩, rfl⟩, rfl⟩, h6⟩, rfl⟩, rfl⟩, rfl⟩, h7⟩, h8⟩, rfl⟩, h9⟩, rfl⟩, h10⟩, h11⟩ := h
      split at h10
      · rename_i p hp
        simp only [Bool.and_eq_true, decide_eq_true_eq] at h10
        obtain ⟨⟨q1, q2⟩, q3⟩ := h10
        obtain ⟨A, D, F, S, B⟩ := k.xsi _ p.1 p.2 (tab_mem hp)
        rw [← g.K, ← g.mg] at F
        rw [q1, ← g.P, ← g.K, ← g.mg] at S
        exact ss_trf g.stk g.frm g.xnd (g.nm h5) h3 g.hsc h4 (g.gl h1) (okN_ok h2).1 g.tk (fun W' pn xe tk' ps' => ih.ss (X := X.tr pn xe) ⟨⟨g.P, g.w, g.K, g.mg, g.base, g.hsc, g.hN, g.nd, g.calm, g.room, tk', g.fnc, g.lam⟩, g.kind, ps', g.stk, g.frm⟩ h11)
          F S (tab_mem q2) (tab_mem q3) (k.none g.toGd (by decide)) (k.none g.toGd (by decide)) h6 h7 h8 h9
      · cases h10
    · cases h
  | tri b tb =>
    simp only [chkS] at h
    split at h
    · rename_i body x p1 m e p2 p3 p4
      simp only [Bool.and_eq_true] at h
      obtain ⟨⟨⟨⟨⟨⟨⟨h1, h2⟩, h3⟩, h4⟩, h5⟩, h0⟩, h6⟩, h7⟩ := h
      have all : ∀ y d, tab y tb = some d → ∃ l A v, XcH X.K X.mg y l A ∧ (∃ C' : Addr, X.mg x = some (.ref C') ∧ PySem.W.exmOne X.K (.ref A) (.ref C') = some true) ∧ (∀ w, Rv X.K w v d) ∧ ∀ (a : Addr) (oe : Obj) (pn : List (Addr × Obj)) (dO : Option Addr), L2N.Zn (.ref A) dO oe → (∃ vs, oe.data = .fields vs) → PE (X.suite a ((a, oe) :: pn)) e (fun σ H Q => exPre (Nm.idxOf m) a dO σ H ∧ Q v H) := by
        intro y d hy
        have ha := List.all_eq_true.mp h7 _ (tab_mem hy)
        simp only at ha
        split at ha
        · rename_i l hl
          simp only [Bool.and_eq_true, decide_eq_true_eq] at ha
          obtain ⟨A, F⟩ := k.xh hl
          rw [← g.K, ← g.mg] at F
          have hxe := xevB_ok ha.2
          obtain ⟨C', hg, _, hex⟩ := F.of x true (tab_mem ha.1)
          have hb : X.mg "isinstance" = none := k.none g.toGd (by decide)
          have mk : ∀ (a : Addr) (oe : Obj) (pn : List (Addr × Obj)) (dO : Option Addr), L2N.Zn (.ref A) dO oe → (∃ vs, oe.data = .fields vs) → ∃ v, (∀ w, Rv X.K w v d) ∧ PE (X.suite a ((a, oe) :: pn)) e (fun σ H Q => exPre (Nm.idxOf m) a dO σ H ∧ Q v H) :=
            fun a oe pn dO hz hf => xev_ok F hz hf hb (g.nm h5) h3 g.hsc h4 20 e d hxe
          have one : ∀ v v' : V, (∀ w, Rv X.K w v d) → (∀ w, Rv X.K w v' d) → d.flat = true → v = v' := fun v v' r r' hfl => by
            have q := r ⟨fun _ => none, [], [], []⟩
            have q' := r' ⟨fun _ => none, [], [], []⟩
            cases q <;> first | (exfalso; simp [D.flat] at hfl; done) | (cases q'; rfl)
          have hfl : d.flat = true := by
            have := ha.2
            unfold xevB at this
            split at this
            · unfold eqFl at this
              split at this
              · rfl
              · rfl
              · cases this
            · cases this
          obtain ⟨v0, r0⟩ : ∃ v0, ∀ w, Rv X.K w v0 d := by
            cases d with
            | bl b => exact ⟨.bl b, fun w => .bl b⟩
            | str s => exact ⟨.str s, fun w => .str s⟩
            | int s => exact ⟨.int s, fun w => .int s⟩
            | non => exact ⟨.non, fun w => .non⟩
            | _ => simp [D.flat] at hfl
          refine ⟨l, A, v0, F, ⟨C', hg, hex⟩, r0, fun a oe pn dO hz hf => ?_⟩
          obtain ⟨v, r, pe⟩ := mk a oe pn dO hz hf
          rw [one v0 v r0 r hfl]
          exact pe
        · cases ha
      obtain ⟨C', hg⟩ : ∃ C' : Value, X.mg x = some C' ∨ tb = [] := by
        cases tb with
        | nil => exact ⟨.none, .inr rfl⟩
        | cons q r =>
          obtain ⟨l, A, v, F, ⟨C', hC, _⟩, _⟩ := all q.1 q.2 (by simp [tab])
          exact ⟨_, .inl hC⟩
      rcases hg with hg | rfl
      · refine ss_tri (cv := C') g.stk g.frm g.xnd (g.nm h5) (by unfold Env.kindOf; rw [g.hsc]; exact lo_ok h3) ⟨g.gl h1, (okN_ok h2).1, .inl hg⟩ g.tk (fun W' pn xe tk' ps' => ih.ss (X := X.tr pn xe) ⟨⟨g.P, g.w, g.K, g.mg, g.base, g.hsc, g.hN, g.nd, g.calm, g.room, tk', g.fnc, g.lam⟩, g.kind, ps', g.stk, g.frm⟩ h6) (fun y d hy => ?_)
        obtain ⟨l, A, v, F, ⟨C2, hC, hex⟩, rest⟩ := all y d hy
        have : C' = .ref C2 := Option.some.inj (hg.symm.trans hC)
        subst this
        exact ⟨l, A, v, F, hex, rest⟩
      · simp at h0
    · cases h
  | frz i => simp [chkS] at h
theorem snd_ss (k : Knows C Γ lv) (ih : SndS C Γ lv Nm n) (g : Gs C lv X sc Nm W) {s : S} {sts : List Stmt} (h : chkSs Γ Nm (n + 1) sc s sts = true) : PSs X sts (eS X (zOf C Γ lv) W s) := by
  cases s with
  | nop =>
    simp only [chkSs] at h
    split at h
    · exact ss_nil
    · cases h
  | seq a b =>
    simp only [chkSs] at h
    split at h
    · exact ss_frz (ih.ss g h)
    · split at h
      · simp only [Bool.and_eq_true] at h
        exact ss_seq (ih.s g h.1) (ih.ss g h.2)
      · cases h
  | _ => simp [chkSs] at h
theorem sndS (k : Knows C Γ lv) : ∀ n, SndS C Γ lv Nm n
  | 0 => ⟨fun _ h => by simp [chkS] at h, fun _ h => by simp [chkSs] at h⟩
  | n + 1 =>
    have ih := sndS k n
    ⟨fun g h => snd_s k ih g h, fun g h => snd_ss k ih g h⟩
end
end LR

set_option Elab.async false
set_option linter.all false
set_option maxRecDepth 100000
set_option maxHeartbeats 4000000
namespace LR
open PySem PySem.Spec PyProof.Rows L2
section
variable {C : Ctx} {Γ : Gam} {lv : Nat}
theorem start_rs {K : PySem.W.Frag} {w : Wd} {N : List Str} {vs : List V} {ds : List D} {n k : Nat} (r : Rvs K w vs ds) (hn : n = N.length) (hk : vs.length = k) : RS K w (L2.start N vs) (ds.map some ++ List.replicate (n - k) none) := by
  have hl := r.length
  subst hn hk
  refine ⟨by unfold L2.start; simp [hl], fun i d h => ?_⟩
  by_cases hi : i < ds.length
  · rw [List.getElem?_append_left (by simpa using hi), List.getElem?_map] at h
    obtain ⟨e, he, h2⟩ := Option.map_eq_some_iff.mp h
    cases h2
    obtain ⟨v, h1, h2⟩ := r.get he
    refine ⟨v, ?_, h2⟩
    unfold L2.start
    rw [List.getElem?_append_left (by rw [List.length_map]; omega), List.getElem?_map, h1]
    rfl
  · rw [List.getElem?_append_right (by simpa using Nat.le_of_not_lt hi), List.getElem?_replicate] at h
    split at h
    · cases h
    · cases h
def noLam (scope : Scope) (N : List Str) : Bool := !(lamSc scope && N.contains ("_law_k" : Str))
theorem fn_core {x qual : Str} {body : List Stmt} {scope : Scope} {f : Addr} {N ps : List Str} {F : Fn} {fuel : Nat} (S : FnScope N ps scope) (k : Knows C Γ lv)
    (hF : Γ.fn x = some F) (hn : F.n = N.length) (hk : F.k = ps.length) (hc : chkSs Γ N fuel scope F.body body = true) (cdv : Value) (A : Around) (outer : List Env) (s : Shared) (H : Hp) (vs : List V) (Q : VK) (E : XK) (hr : Room (C.lh lv) (A.deeper (envOfC qual scope s.heap.objs.size f cdv)))
    (hlam : lamSc scope = true → ("_law_k" : Str) ∈ N → LamF C lv (cxOf (L2N.CX C.P C.w) C.P C.w C.K C.mg C.base N qual scope f cdv A outer s H E)) (h : spC C.K C.cn C.mg (callN Γ (lv + 1) x) F.k vs H Q E) :
    ∃ t, PSs (cxOf (L2N.CX C.P C.w) C.P C.w C.K C.mg C.base N qual scope f cdv A outer s H E) body t ∧ t { nx := fun _ H' => Q .non H', rt := Q } (L2.start N vs) H := by
  obtain ⟨w, ds, hw, rm, rvs, hl, p⟩ := h
  subst hw
  refine ⟨eS (cxOf (L2N.CX C.P C.w) C.P C.w C.K C.mg C.base N qual scope f cdv A outer s w.H E) (zOf C Γ lv) (fun cls d _ H => E cls d H) F.body, ?_, ?_⟩
  · refine (sndS k fuel).ss (sc := scope) ⟨⟨rfl, rfl, rfl, rfl, rfl, rfl, rfl, S.nd, rfl, hr, L2N.takes_of rfl rfl rfl rfl, fun _ _ => rfl, hlam⟩, S.kind, passes_of rfl, rfl, rfl⟩ hc
  · have hd : ds.length = F.k := by rw [← rvs.length]; exact hl
    refine ⟨w, ds.map some ++ List.replicate (F.n - F.k) none, rfl, rm, start_rs rvs hn hl, ?_⟩
    unfold callN at p
    rw [hF] at p
    simp only [hd, if_true] at p
    cases hr : evS Γ.con (callN Γ lv) F.body (ds.map some ++ List.replicate (F.n - F.k) none) w.m with
    | err => rw [hr] at p; exact p
    | exc x m => rw [hr] at p; exact fun w' σ cls d hm rm fr h1 h2 => p w' cls d hm rm fr h1 h2
    | ok fl m =>
      rw [hr] at p
      cases fl with
      | nx s => exact fun w' σ hm rm fr rs => p w' .non hm rm fr .non
      | rt d => exact p
      | bk s => exact p.elim
theorem fn_ok {x y qual : Str} {params : Arguments} {body : List Stmt} {scope : Scope} {f : Addr} {fd : FuncData} {N ps : List Str} {F : Fn} {fuel : Nat} (U : FunD C.K y qual params body scope [] [] f fd) (S : FnScope N ps scope) (k : Knows C Γ lv)
    (hF : Γ.fn x = some F) (hn : F.n = N.length) (hk : F.k = ps.length) (hc : chkSs Γ N fuel scope F.body body = true) (hnl : noLam scope N = true) :
    FnOk C.P C.w C.K C.mg C.base (L2N.CX C.P C.w) (C.lg (lv + 1)) f fd ps (spC C.K C.cn C.mg (callN Γ (lv + 1) x) F.k) := by
  rw [← C.lh_succ]
  refine U.ok S (fun vs H Q E h => ?_) (fun cdv A outer s H vs Q E hr h => fn_core S k hF hn hk hc cdv A outer s H vs Q E hr (fun h1 h2 => ?_) h)
  · obtain ⟨w, ds, _, _, _, e, _⟩ := h
    rw [e, hk]
  · unfold noLam at hnl
    rw [h1] at hnl
    simp [h2] at hnl
/-- a def with a star parameter behind two others -/
def StarB (fd : FuncData) (p1 p2 pv : Str) : Prop := ∀ us rest : List Value, us.length = [p1, p2].length → bindArgs fd ⟨us ++ rest, []⟩ = (newTuple rest >>= fun t => pure ([p1, p2].zip us ++ [(pv, t)]))
theorem FunD.starB {K : PySem.W.Frag} {x qual p1 p2 pv : Str} {params : Arguments} {body : List Stmt} {scope : Scope} {f : Addr} {fd : FuncData} (U : FunD K x qual params body scope [] [] f fd)
    (h0 : ∀ (kV doc pm : Value) (an : Option Addr) (cdv ct : Value) (a b : Value), bindArgs (PySem.W.fnOf x qual params body scope .none kV doc pm an cdv ct) ⟨[a, b], []⟩ = (newTuple [] >>= fun t => pure [(p1, a), (p2, b), (pv, t)]))
    (h1 : ∀ (kV doc pm : Value) (an : Option Addr) (cdv ct : Value) (a b r : Value) (rs : List Value), bindArgs (PySem.W.fnOf x qual params body scope .none kV doc pm an cdv ct) ⟨a :: b :: r :: rs, []⟩ = (newTuple (r :: rs) >>= fun t => pure [(p1, a), (p2, b), (pv, t)])) : StarB fd p1 p2 pv := by
  obtain ⟨oc, od, dV, kV, doc, pm, an, cdv, ct, osl, rfl, lk, hcd, hD, _⟩ := U.ex
  rcases hD with ⟨_, rfl⟩ | ⟨e, _⟩
  · exact StX.bind_star2 (B := fun us => bindArgs (PySem.W.fnOf x qual params body scope .none kV doc pm an cdv ct) ⟨us, []⟩) (h0 kV doc pm an cdv ct) (h1 kV doc pm an cdv ct)
  · exact absurd rfl e
theorem cxUpN {P : Program} {w : World} : StX.CXUp (L2N.CX P w) := by
  rintro outer s H s2 H2 E e s' un kp ho ⟨a, B, H', cls, d, ea, fl, hok, ub, na, os, ag, he⟩
  refine ⟨a, B, H', cls, d, ea, fl, hok, ⟨fun b o q n hb => ub.keep b o (kp b o q) (un.free b o q n (by simp)) hb, fun b o q hb => ub.slot b o (kp b o q) hb, fun b o q n => ub.free b o (kp b o q) (un.free b o q n (by simp)),
    fun b o q hb => ub.there b o (kp b o q) hb, fun b xs q => ub.tups b xs (un.tups b xs q), fun b o xs q => ub.frzs b o xs (un.frzs b o xs q), fun b ps q => ?_⟩, na, os.trans ho, ag, he⟩
  obtain ⟨m1, e1⟩ := un.tbls b ps q
  obtain ⟨m2, e2⟩ := ub.tbls b _ e1
  exact ⟨m1 ++ m2, by rw [e2, Array.append_assoc]⟩
theorem fn_okS {x y qual p1 p2 pv : Str} {params : Arguments} {body : List Stmt} {scope : Scope} {f : Addr} {fd : FuncData} {N : List Str} {F : Fn} {fuel : Nat} (U : FunD C.K y qual params body scope [] [] f fd) (B : StarB fd p1 p2 pv) (S : FnScope N ([p1, p2] ++ [pv]) scope) (k : Knows C Γ lv)
    (hF : Γ.fn x = some F) (hn : F.n = N.length) (hk : F.k = 3) (hc : chkSs Γ N fuel scope F.body body = true) (hnl : noLam scope N = true) :
    FnR C.P C.w C.K C.mg C.base (L2N.CX C.P C.w) (C.lg (lv + 1)) f (starSp 2 (spC C.K C.cn C.mg (callN Γ (lv + 1) x) 3)) := by
  rw [← C.lh_succ]
  obtain ⟨oc, od, dV, kV, doc, pm, an, cdv, ct, osl, rfl, lk, hcd, _, _⟩ := U.ex
  refine StX.fn_star (ps := [p1, p2]) (pv := pv) lk hcd S cxUpN B fun A outer s H vs Q E hr h => ?_
  refine fn_core S k hF hn hk hc cdv A outer s H vs Q E hr (fun h1 h2 => ?_) (by rw [hk]; exact h)
  unfold noLam at hnl
  rw [h1] at hnl
  simp [h2] at hnl
theorem lamF_of {X : Cx} {n : Nat} {c P : Addr} {qual : Str} (hlv : 2 ≤ n) (hb : X.base = C.base) (hm : X.mg = C.mg) (hq : X.env.qual = qual) (hc : X.env.code = .ref c) (TB : LamX.TabB C.base C.mg c P) (hT : (P, qual ++ "<lambda>") ∈ C.T) (hu : ∀ q ∈ C.T, q.1 = P → q.2 = qual ++ "<lambda>") : LamF C n X := by
  unfold LamF
  rw [hb, hm, hq]
  exact ⟨hlv, c, P, TB, hc, hT, hu⟩
def smE : E → Bool
  | .v _ => true
  | .c _ => true
  | .dnw => true
  | _ => false
def flS : S → Bool
  | .nop => true
  | .seq a b => flS a && flS b
  | .fas o _ _ e => smE o && smE e
  | _ => false
/-- what stands behind the top, by names -/
structure Facts (C : Ctx) (Γ : Gam) : Prop where
  fn : ∀ f F, keyB Γ f = false → Γ.fn f = some F → ∃ (ad : Addr) (fd : FuncData) (ps N : List Str) (qual : Str) (params : Arguments) (body : List Stmt) (scope : Scope) (fuel : Nat), C.mg f = some (.ref ad) ∧ FunD C.K f qual params body scope [] [] ad fd ∧ Binds C.K fd ps [] ∧ FnScope N ps scope ∧
    F.n = N.length ∧ F.k = ps.length ∧ chkSs Γ N fuel scope F.body body = true ∧ noLam scope N = true
  mth : ∀ c m key F, (c, m, key) ∈ Γ.mth → Γ.fn key = some F → (∃ (ad : Addr) (fd : FuncData) (ps N : List Str) (x qual : Str) (params : Arguments) (body : List Stmt) (scope : Scope) (fuel : Nat), Cls C.K (C.ad c) ∧ Meth C.K (C.ad c) m ad ∧
    (m = "__init__" → C.mg c = some (.ref (C.ad c)) ∧ Mk C.K (C.ad c) ad) ∧ FunD C.K x qual params body scope [] [] ad fd ∧ Binds C.K fd ps [] ∧ FnScope N ps scope ∧ F.n = N.length ∧ F.k = ps.length ∧ chkSs Γ N fuel scope F.body body = true ∧ noLam scope N = true) ∧ (C.fl = true → m = "__init__" → flS F.body = true)
  fld : ∀ c x, (c, x) ∈ Γ.fls → Cls C.K (C.ad c) ∧ NoAttr C.K (C.ad c) x
  con : ∀ x d, Γ.con x = some d → ∃ u v, C.mg x = some u ∧ RelV v u ∧ ∀ w, Rv C.K w v d
  tpc : ∀ x l, Γ.con x = some (.tup l) → ∃ a o, C.mg x = some (.ref a) ∧ C.K.lookup a = some o ∧ o.cls = .type "tuple" ∧ o.dict = none ∧ ∀ w, Rv C.K w (.ref a) (.tup l)
  blt : ∀ x ∈ bnames, C.mg x = none
  exc : ∀ y l, (y, l) ∈ Γ.exc → ∃ A, XcF C.K C.mg y l A
  xsi : ∀ y f l, (y, f, l) ∈ Γ.xsi → ∃ A D, XcH C.K C.mg y l A ∧ SupF C.P C.K C.mg A f D ∧ Binds C.K D.fd [D.n0, D.n1] []
  lmf : ∀ g okv tb, (g, okv, tb) ∈ Γ.lmf → LmF C g okv tb
  prp : ∀ c x key F, (c, x, key) ∈ Γ.prp → Γ.fn key = some F → C.fl = false ∧ ∃ (p ad : Addr) (fd : FuncData) (ps N : List Str) (y qual : Str) (params : Arguments) (body : List Stmt) (scope : Scope) (fuel : Nat), Cls C.K (C.ad c) ∧ PropOf C.K (C.ad c) x p ad ∧
    FunD C.K y qual params body scope [] [] ad fd ∧ Binds C.K fd ps [] ∧ FnScope N ps scope ∧ F.n = N.length ∧ F.k = ps.length ∧ chkSs Γ N fuel scope F.body body = true ∧ noLam scope N = true
  mks : ∀ c key F, (c, key) ∈ Γ.mks → Γ.fn key = some F → F.k = 3 → C.fl = false ∧ ∃ (ad : Addr) (fd : FuncData) (p1 p2 pv : Str) (N : List Str) (y qual : Str) (params : Arguments) (body : List Stmt) (scope : Scope) (fuel : Nat), C.mg c = some (.ref (C.ad c)) ∧ Mk C.K (C.ad c) ad ∧
    FunD C.K y qual params body scope [] [] ad fd ∧ StarB fd p1 p2 pv ∧ FnScope N ([p1, p2] ++ [pv]) scope ∧ F.n = N.length ∧ chkSs Γ N fuel scope F.body body = true ∧ noLam scope N = true
  opc : ∀ c ∈ Γ.opc, C.fl = false ∧ C.mg c = some (.ref (C.ad c)) ∧ OpF C.K (C.ad c)
theorem fnR_zero {k : Nat} {ad : Addr} {x : Str} : FnR C.P C.w C.K C.mg C.base (L2N.CX C.P C.w) k ad (starSp 2 (spC C.K C.cn C.mg (callN Γ 0 x) 3)) := by
  intro A outer s H us vs Q E _ e0 _ h
  obtain ⟨ws, rest, _, _, _, hp⟩ := h
  obtain ⟨w, ds, _, _, _, _, p⟩ := hp _ (e0.hok.fresh (Nat.le_refl _))
  exact p.elim
theorem fn_zero {k : Nat} {fd : FuncData} {ps : List Str} {F : Fn} {ad : Addr} {x : Str} (h6 : F.k = ps.length) : FnOk C.P C.w C.K C.mg C.base (L2N.CX C.P C.w) k ad fd ps (spC C.K C.cn C.mg (callN Γ 0 x) F.k) := by
  refine ⟨fun vs H Q E h => ?_, fun A outer s H args us vs Q E _ _ _ _ h => ?_⟩
  · obtain ⟨w, ds, _, _, _, e, _⟩ := h
    rw [e, h6]
  · obtain ⟨w, ds, _, _, _, _, p⟩ := h
    exact p.elim
/-- a body that calls nothing -/
theorem smE_ok {G : Str → Option D} {cl cl' : Str → List D → Mem → R D} {e : E} {s : Sl} {m : Mem} (h : smE e = true) : ev G cl e s m = ev G cl' e s m := by
  cases e <;> first | (simp [smE] at h; done) | (rw [ev, ev])
theorem flS_ok {G : Str → Option D} {cl cl' : Str → List D → Mem → R D} : ∀ {b : S} {s : Sl} {m : Mem}, flS b = true → evS G cl b s m = evS G cl' b s m
  | .nop, s, m, _ => by rw [evS, evS]
  | .seq a b, s, m, h => by
    simp only [flS, Bool.and_eq_true] at h
    rw [evS, evS, flS_ok h.1]
    congr 1
    funext r m
    cases r with
    | nx s => exact flS_ok h.2
    | _ => rfl
  | .fas o C f e, s, m, h => by
    simp only [flS, Bool.and_eq_true] at h
    rw [evS, evS, smE_ok (cl' := cl') h.2]
    congr 1
    funext y m
    rw [smE_ok (cl' := cl') h.1]
theorem flat_call {x : Str} {F : Fn} (hF : Γ.fn x = some F) (h : flS F.body = true) (n : Nat) : callN Γ (n + 1) x = callN Γ 1 x := by
  funext ds m
  unfold callN
  rw [hF]
  simp only
  rw [flS_ok (cl' := callN Γ 0) h]
theorem know0 (T : Facts C Γ) : Know C Γ 0 := ⟨fun f F hk hF => by
      obtain ⟨ad, fd, ps, N, qual, params, body, scope, fuel, h1, h2, h3, h4, h5, h6, h7, h8⟩ := T.fn f F hk hF
      exact ⟨ad, fd, ps, h1, h2.kp, h3, fn_zero h6⟩, fun c m key F hm hF => by
      obtain ⟨⟨ad, fd, ps, N, x, qual, params, body, scope, fuel, g1, g2, g3, h2, h3, h4, h5, h6, h7, h8⟩, _⟩ := T.mth c m key F hm hF
      exact ⟨ad, fd, ps, g1, g2, g3, h3, fn_zero h6⟩, T.fld, T.con, T.tpc, T.blt, T.exc, T.xsi, T.lmf, fun c x key F hm hF => by
      obtain ⟨h0, p, ad, fd, ps, N, y, qual, params, body, scope, fuel, g1, g2, h2, h3, h4, h5, h6, h7, h8⟩ := T.prp c x key F hm hF
      exact ⟨h0, p, ad, fd, ps, g1, g2, h3, fn_zero h6⟩, fun c key F hm hF hk => by
      obtain ⟨h0, ad, fd, p1, p2, pv, N, y, qual, params, body, scope, fuel, g1, g2, _⟩ := T.mks c key F hm hF hk
      exact ⟨h0, ad, g1, g2, fnR_zero⟩, T.opc⟩
theorem knowS (T : Facts C Γ) {n : Nat} (k0 : Knows C Γ 0) (k : Knows C Γ n) : Know C Γ (n + 1) := ⟨fun f F hk hF => by
      obtain ⟨ad, fd, ps, N, qual, params, body, scope, fuel, h1, h2, h3, h4, h5, h6, h7, h8⟩ := T.fn f F hk hF
      exact ⟨ad, fd, ps, h1, h2.kp, h3, fn_ok h2 h4 k hF h5 h6 h7 h8⟩, fun c m key F hm hF => by
      obtain ⟨⟨ad, fd, ps, N, x, qual, params, body, scope, fuel, g1, g2, g3, h2, h3, h4, h5, h6, h7, h8⟩, hfl⟩ := T.mth c m key F hm hF
      refine ⟨ad, fd, ps, g1, g2, g3, h3, ?_⟩
      cases hC : C.fl with
      | false =>
        have e : C.lm m (n + 1) = C.lg (n + 1) := by unfold Ctx.lm Ctx.lg; rw [hC]; rfl
        rw [e]
        exact fn_ok h2 h4 k hF h5 h6 h7 h8
      | true =>
        by_cases hi : m = "__init__"
        · have e : C.lm m (n + 1) = C.lg 1 := by unfold Ctx.lm Ctx.lg; rw [hC, if_pos rfl, if_pos rfl, if_pos hi, if_neg (by omega)]; rfl
          rw [e, flat_call hF (hfl hC hi) n]
          exact fn_ok h2 h4 k0 hF h5 h6 h7 h8
        · have e : C.lm m (n + 1) = C.lg (n + 1) := by unfold Ctx.lm; rw [hC, if_pos rfl, if_neg hi]
          rw [e]
          exact fn_ok h2 h4 k hF h5 h6 h7 h8, T.fld, T.con, T.tpc, T.blt, T.exc, T.xsi, T.lmf, fun c x key F hm hF => by
      obtain ⟨h0, p, ad, fd, ps, N, y, qual, params, body, scope, fuel, g1, g2, h2, h3, h4, h5, h6, h7, h8⟩ := T.prp c x key F hm hF
      exact ⟨h0, p, ad, fd, ps, g1, g2, h3, fn_ok h2 h4 k hF h5 h6 h7 h8⟩, fun c key F hm hF hk => by
      obtain ⟨h0, ad, fd, p1, p2, pv, N, y, qual, params, body, scope, fuel, g1, g2, h2, h3, h4, h5, h7, h8⟩ := T.mks c key F hm hF hk
      exact ⟨h0, ad, g1, g2, fn_okS h2 h3 h4 k hF h5 hk h7 h8⟩, T.opc⟩
theorem know (T : Facts C Γ) : ∀ n, Knows C Γ n
  | 0 => ⟨know0 T, fun l hl => by
      obtain rfl : l = 0 := by omega
      exact know0 T⟩
  | n + 1 =>
    have k := know T n
    have k0 : Knows C Γ 0 := ⟨know0 T, fun l hl => by
      obtain rfl : l = 0 := by omega
      exact know0 T⟩
    have K := knowS T k0 k
    ⟨K, fun l hl => by
      by_cases e : l = n + 1
      · subst e; exact K
      · exact k.all l (by omega)⟩
end
/-! ### constants behind the top -/
mutual
def conV (K : PySem.W.Frag) : Nat → Value → D → Bool
  | 0, _, _ => false
  | n + 1, u, d => match u, d with
    | .none, .non => true
    | .bool b, .bl c => b == c
    | .int i _, .int j => decide (i = j)
    | .str x _, .str y => decide (x = y)
    | .ref a, .tup ds => (match K.lookup a with
      | some ⟨.type c, none, .seq its _, _⟩ => decide (c = "tuple") && decide (its.size ≤ sizeLine) && conVs K n its.toList ds
      | _ => false)
    | .ref a, .scr ds => (match K.lookup a with
      | some ⟨.type c, none, .seq its _, _⟩ => decide (c = "list") && decide (its.size ≤ sizeLine) && conVs K n its.toList ds
      | _ => false)
    | _, _ => false
def conVs (K : PySem.W.Frag) : Nat → List Value → List D → Bool
  | 0, _, _ => false
  | n + 1, us, ds => match us, ds with
    | [], [] => true
    | u :: us, d :: ds => conV K n u d && conVs K n us ds
    | _, _ => false
end
mutual
theorem conV_ok {K : PySem.W.Frag} : ∀ {n : Nat} {u : Value} {d : D}, conV K n u d = true → ∃ v, RelV v u ∧ ∀ w, Rv K w v d
  | 0, _, _, h => by simp [conV] at h
  | n + 1, u, d, h => by
    unfold conV at h
    split at h
    · exact ⟨.non, rfl, fun w => .non⟩
    · rename_i b c
      have e : b = c := by simpa using h
      subst e
      exact ⟨.bl b, rfl, fun w => .bl b⟩
    · rw [← of_decide_eq_true h]
      exact ⟨.int _, ⟨_, rfl⟩, fun w => .int _⟩
    · rw [← of_decide_eq_true h]
      exact ⟨.str _, ⟨_, rfl⟩, fun w => .str _⟩
    · rename_i a ds
      split at h
      · rename_i c its k sl hK
        simp only [Bool.and_eq_true, decide_eq_true_eq] at h
        obtain ⟨⟨rfl, h2⟩, h3⟩ := h
        obtain ⟨xs, h4, h5⟩ := conVs_ok h3
        exact ⟨.ref a, rfl, fun w => .tup (.inr ⟨_, its, k, hK, rfl, rfl, h2, h4⟩) (h5 w)⟩
      · cases h
    · rename_i a ds
      split at h
      · rename_i c its k sl hK
        simp only [Bool.and_eq_true, decide_eq_true_eq] at h
        obtain ⟨⟨rfl, h2⟩, h3⟩ := h
        obtain ⟨xs, h4, h5⟩ := conVs_ok h3
        exact ⟨.ref a, rfl, fun w => .scr (.inr ⟨_, its, k, hK, rfl, rfl, rfl, h2, h4⟩) (h5 w)⟩
      · cases h
    · cases h
theorem conVs_ok {K : PySem.W.Frag} : ∀ {n : Nat} {us : List Value} {ds : List D}, conVs K n us ds = true → ∃ xs, Vals xs us ∧ ∀ w, Rvs K w xs ds
  | 0, _, _, h => by simp [conVs] at h
  | n + 1, [], [], _ => ⟨[], .nil, fun w => .nil⟩
  | n + 1, u :: us, d :: ds, h => by
    simp only [conVs, Bool.and_eq_true] at h
    obtain ⟨v, h1, h2⟩ := conV_ok h.1
    obtain ⟨xs, h3, h4⟩ := conVs_ok h.2
    exact ⟨v :: xs, .cons h1 h3, fun w => .cons (h2 w) (h4 w)⟩
  | n + 1, [], _ :: _, h => by simp [conVs] at h
  | n + 1, _ :: _, [], h => by simp [conVs] at h
end
def conOk (K : PySem.W.Frag) (p : Str × D) : Bool := match PySem.W.nsIn K mainGlobals p.1 with
  | some (some u) => conV K 20 u p.2
  | _ => false
theorem conOk_ok {K : PySem.W.Frag} {h : Heap} {mg : Str → Option Value} (X : K.In h) (G : h.Ns mainGlobals mg) {p : Str × D} (c : conOk K p = true) : ∃ u v, mg p.1 = some u ∧ RelV v u ∧ ∀ w, Rv K w v p.2 := by
  unfold conOk at c
  split at c
  · rename_i u hu
    obtain ⟨v, h1, h2⟩ := conV_ok c
    exact ⟨u, v, PySem.W.mg_of X G hu, h1, h2⟩
  · cases c
theorem conOk_tp {K : PySem.W.Frag} {h : Heap} {mg : Str → Option Value} (X : K.In h) (G : h.Ns mainGlobals mg) {x : Str} {l : List D} (c : conOk K (x, .tup l) = true) : ∃ a o, mg x = some (.ref a) ∧ K.lookup a = some o ∧ o.cls = .type "tuple" ∧ o.dict = none ∧ ∀ w, Rv K w (.ref a) (.tup l) := by
  unfold conOk at c
  split at c
  · rename_i u hu
    cases u with
    | ref a =>
      have c : (match K.lookup a with
        | some ⟨.type c, none, .seq its _, _⟩ => decide (c = "tuple") && decide (its.size ≤ sizeLine) && conVs K 19 its.toList l
        | _ => false) = true := c
      split at c
      · rename_i c' its k sl hK
        simp only [Bool.and_eq_true, decide_eq_true_eq] at c
        obtain ⟨⟨rfl, h2⟩, h3⟩ := c
        obtain ⟨xs, h4, h5⟩ := conVs_ok h3
        exact ⟨a, _, PySem.W.mg_of X G hu, hK, rfl, rfl, fun w => .tup (.inr ⟨_, its, k, hK, rfl, rfl, h2, h4⟩) (h5 w)⟩
      · cases c
    | _ => exact absurd c (by intro z; first | (cases z; done) | (simp [conV] at z; done))
  · cases c
/-! ### exception classes behind the top -/
def eqB {α : Type} [BEq α] (a b : α) : Bool := a == b
def xcOf (K : PySem.W.Frag) (C : Addr) (p : Str × Bool) : Bool := match PySem.W.nsIn K mainGlobals p.1 with
  | some (some (.ref C')) => (PySem.W.kitOne K (.ref C) (.ref C') == some p.2) && (PySem.W.exmOne K (.ref C) (.ref C') == some p.2)
  | _ => false
def xcOk (K : PySem.W.Frag) (p : Str × List (Str × Bool)) : Bool := match PySem.W.nsIn K mainGlobals p.1 with
  | some (some (.ref C)) => PySem.W.keepIn K (.ref C) && PySem.W.excIn K C excBm "ValueError.__new__" && (PySem.W.subIn K (.ref C) (.type "BaseException") == some true) && (PySem.W.typeIn K (.ref C) == some (.type "type")) &&
      (PySem.W.findIn K (.ref C) "__getattribute__" == some (some (.builtin "BaseException.__getattribute__"))) && (PySem.W.findIn K (.ref C) "__getattr__" == some none) && PySem.W.hasDictIn K C &&
      (PySem.W.findIn K (.ref C) "__class__" == some (some (.builtin "object.__class__"))) && (PySem.W.specialIn K (.builtin "object.__class__") "__get__" == some (some (.builtin "getset_descriptor.__get__"))) &&
      (PySem.W.takesIn K (.builtin "object.__class__") == some true) && (PySem.W.mroIn K C (.type "object") == some true) && p.2.all (xcOf K C)
  | _ => false
theorem xcOk_ok {K : PySem.W.Frag} {h : Heap} {mg : Str → Option Value} (X : K.In h) (G : h.Ns mainGlobals mg) {p : Str × List (Str × Bool)} (c : xcOk K p = true) : ∃ A, XcF K mg p.1 p.2 A := by
  unfold xcOk at c
  split at c
  · rename_i C hC
    simp only [Bool.and_eq_true, beq_iff_eq] at c
    obtain ⟨⟨⟨⟨⟨⟨⟨⟨⟨⟨⟨c1, c2⟩, c3⟩, c4⟩, c5⟩, c6⟩, c7⟩, c8⟩, c9⟩, c10⟩, c11⟩, c12⟩ := c
    refine ⟨C, ⟨PySem.W.mg_of X G hC, ⟨c5, c6, c3, c7, c8, c9, c10, c11⟩, fun c b hm => ?_⟩, c1, c2, c3, c4⟩
    have h := List.all_eq_true.mp c12 _ hm
    unfold xcOf at h
    simp only at h
    split at h
    · rename_i C' hC'
      simp only [Bool.and_eq_true, beq_iff_eq] at h
      exact ⟨C', PySem.W.mg_of X G hC', h.1, h.2⟩
    · cases h
  · cases c
/-! ### the Hook -/
def obsL (fa : List He.Fa) (fn : List He.DefD) (co : List (Str × D)) (xs : List (Str × List (Str × Bool))) (K : PySem.W.Frag) : He.AlD := (((fa.all fun f => f.ok K) && (co.all (conOk K) && xs.all (xcOk K))) && fn.all fun d => d.ok K, fn.map fun d => He.fnW K d.at_)
def SaysL (fa : List He.Fa) (fn : List He.DefD) (co : List (Str × D)) (xs : List (Str × List (Str × Bool))) (K : PySem.W.Frag) : Prop := obsL fa fn co xs K = He.valD fn
def obsLG (n : Nat) (fa : List He.Fa) (fn : List He.DefD) (co : List (Str × D)) (xs : List (Str × List (Str × Bool))) (g : Addr → Option Obj) : He.AlD := obsL fa fn co xs (He.frG g (He.asD g n))
def hookL (n : Nat) (fa : List He.Fa) (fn : List He.DefD) (co : List (Str × D)) (xs : List (Str × List (Str × Bool))) : PySem.W.Hook where
  α := He.AlD
  obs := fun s => obsLG n fa fn co xs s.heap.get?
  val := fun _ => He.valD fn
  says := fun _ h => ∃ K : PySem.W.Frag, K.In h ∧ SaysL fa fn co xs K
  of := fun _ _ e => ⟨_, He.frG_in, e⟩
  keeps := fun _ _ _ ⟨K, hK, c⟩ k => ⟨K, PySem.W.Frag.In.keeps hK k, c⟩
theorem obsLG_eq {n : Nat} {fa : List He.Fa} {fn : List He.DefD} {co : List (Str × D)} {xs : List (Str × List (Str × Bool))} {g : Addr → Option Obj} {s : Shared} (h : ∀ a, g a = s.heap.get? a) : obsLG n fa fn co xs g = (hookL n fa fn co xs).obs s := by
  have e : g = s.heap.get? := funext h
  rw [e] <;> rfl
section
variable {fa : List He.Fa} {fn : List He.DefD} {co : List (Str × D)} {xs : List (Str × List (Str × Bool))} {K : PySem.W.Frag}
theorem SaysL.saysD (c : SaysL fa fn co xs K) : He.SaysD fa fn K := by
  unfold SaysL obsL He.valD at c
  have h1 := congrArg (fun z : He.AlD => z.1) c
  have h2 := congrArg (fun z : He.AlD => z.2) c
  simp only [Bool.and_eq_true] at h1 h2
  unfold He.SaysD He.obsD He.valD
  rw [h2, h1.1.1, h1.2]
  rfl
theorem SaysL.con (c : SaysL fa fn co xs K) {p : Str × D} (h : p ∈ co) : conOk K p = true := by
  unfold SaysL obsL He.valD at c
  have h1 := congrArg (fun z : He.AlD => z.1) c
  simp only [Bool.and_eq_true] at h1
  exact List.all_eq_true.mp h1.1.2.1 p h
theorem SaysL.exc (c : SaysL fa fn co xs K) {p : Str × List (Str × Bool)} (h : p ∈ xs) : xcOk K p = true := by
  unfold SaysL obsL He.valD at c
  have h1 := congrArg (fun z : He.AlD => z.1) c
  simp only [Bool.and_eq_true] at h1
  exact List.all_eq_true.mp h1.1.2.2 p h
end
/-! ### the Hook with tables of code objects -/
structure SaysT (fa : List He.Fa) (fn : List He.DefD) (co : List (Str × D)) (xs : List (Str × List (Str × Bool))) (tf : List He.Defn) (h : Heap) (K : PySem.W.Frag) : Prop where
  l : SaysL fa fn co xs K
  hd : ∀ p ∈ tf, PySem.W.codeHdIn K (He.cT K p).1 (He.cT K p).2 = true
  out : ∀ p ∈ tf, K.lookup (He.cT K p).2 = none
  empty : ∀ p ∈ tf, h.get? (He.cT K p).2 = some { cls := .none, data := .fields #[] }
def obsLTG (n : Nat) (fa : List He.Fa) (fn : List He.DefD) (co : List (Str × D)) (xs : List (Str × List (Str × Bool))) (tf : List He.Defn) (g : Addr → Option Obj) : He.AlD × Bool := (obsL fa fn co xs (He.frT g (He.asD g n)), He.tabsB g tf (He.frT g (He.asD g n)))
theorem saysT_of {n : Nat} {fa : List He.Fa} {fn : List He.DefD} {co : List (Str × D)} {xs : List (Str × List (Str × Bool))} {tf : List He.Defn} {h : Heap} (e : obsLTG n fa fn co xs tf h.get? = (He.valD fn, true)) : SaysT fa fn co xs tf h (He.frT h.get? (He.asD h.get? n)) := by
  have e1 : obsL fa fn co xs (He.frT h.get? (He.asD h.get? n)) = He.valD fn := congrArg (fun z : He.AlD × Bool => z.1) e
  have e2 : He.tabsB h.get? tf (He.frT h.get? (He.asD h.get? n)) = true := congrArg (fun z : He.AlD × Bool => z.2) e
  have key : ∀ p ∈ tf, PySem.W.codeHdIn (He.frT h.get? (He.asD h.get? n)) (He.cT (He.frT h.get? (He.asD h.get? n)) p).1 (He.cT (He.frT h.get? (He.asD h.get? n)) p).2 = true ∧ ∃ o, h.get? (He.cT (He.frT h.get? (He.asD h.get? n)) p).2 = some o ∧ He.emptyTab o = true := fun p hp => by
    have h3 := List.all_eq_true.mp e2 p hp
    simp only [Bool.and_eq_true] at h3
    refine ⟨h3.1, ?_⟩
    have h4 := h3.2
    split at h4
    · rename_i o q
      exact ⟨o, q, h4⟩
    · cases h4
  exact ⟨e1, fun p hp => (key p hp).1, fun p hp => by
    obtain ⟨_, o, q, z⟩ := key p hp
    exact He.frT_none q z, fun p hp => by
    obtain ⟨_, o, q, z⟩ := key p hp
    rw [q, He.emptyTab_eq z]⟩
def hookLT (n : Nat) (fa : List He.Fa) (fn : List He.DefD) (co : List (Str × D)) (xs : List (Str × List (Str × Bool))) (tf : List He.Defn) : PySem.W.Hook where
  α := He.AlD × Bool
  obs := fun s => obsLTG n fa fn co xs tf s.heap.get?
  val := fun _ => (He.valD fn, true)
  says := fun _ h => ∃ K : PySem.W.Frag, K.In h ∧ SaysT fa fn co xs tf h K
  of := fun _ _ e => ⟨_, He.frT_in, saysT_of e⟩
  keeps := fun _ _ _ ⟨K, hK, c⟩ k => ⟨K, PySem.W.Frag.In.keeps hK k, ⟨c.l, c.hd, c.out, fun p hp => k _ _ (c.empty p hp)⟩⟩
theorem obsLTG_eq {n : Nat} {fa : List He.Fa} {fn : List He.DefD} {co : List (Str × D)} {xs : List (Str × List (Str × Bool))} {tf : List He.Defn} {g : Addr → Option Obj} {s : Shared} (h : ∀ a, g a = s.heap.get? a) : obsLTG n fa fn co xs tf g = (hookLT n fa fn co xs tf).obs s := by
  have e : g = s.heap.get? := funext h
  rw [e] <;> rfl
def mkG (co : List (Str × D)) (fs : List (Str × Fn)) : Gam := { con := fun x => tab x co, fn := fun x => tab x fs }
def mkX (co : List (Str × D)) (fs : List (Str × Fn)) (ex : List (Str × List (Str × Bool))) : Gam := { con := fun x => tab x co, fn := fun x => tab x fs, exc := ex }
/-! ### the law's promise -/
def spLaw (K : PySem.W.Frag) (T : List (Addr × Str) := []) : Sp := fun vs H Q _ => ∃ (a : Addr) (ns : List Int), vs = [.ref a] ∧ SqL K H a (ns.map V.int) ∧ ns.length ≤ 63 ∧ (∀ p ∈ T, H p.1 = some (.tbl #[])) ∧ ∀ H', Q (.bl true) H'
theorem law_sp {K : PySem.W.Frag} {cn : Cn} {mg : Str → Option Value} {Γ : Gam} {lv : Nat} {x : Str} (hlaw : ∀ ns : List Int, ns.length ≤ 63 → ∃ m, callN Γ lv x [.scr (ns.map .int)] [] = .ok (.bl true) m) :
    ∀ vs H Q E, spLaw K cn.T vs H Q E → spC K cn mg (callN Γ lv x) 1 vs H Q E := by
  rintro vs H Q E ⟨a, ns, rfl, hS, hl, hTb, hQ⟩
  obtain ⟨m, hm⟩ := hlaw ns hl
  refine ⟨⟨H, [], [], []⟩, [.scr (ns.map .int)], rfl, ⟨rfl, .nil, fun a h => (by cases h), fun a h => (by cases h), fun a h => (by cases h), fun n c a h => (by simp at h), fun p hp => .nil (hTb p hp)⟩, .cons (.scr ?_ (Rvs.ofInts ns)) .nil, rfl, ?_⟩
  · rcases hS with h | h
    · exact .inl ⟨h, fun ⟨n, c, h1, _⟩ => (by simp at h1), (by simp)⟩
    · exact .inr h
  · show Post K cn mg (Rv K) Q E ⟨H, [], [], []⟩ (callN Γ lv x [.scr (ns.map .int)] [])
    rw [hm]
    intro w' b _ _ _ r
    cases r
    exact hQ _
theorem walk_L {l : PySem.W.OpenLaw} {n k : Nat} {q : Program} {loose : List Str} {XP : (Str → Option Value) → Heap → Prop} {YP : World → Heap → Prop} {d : DefRec} {x : Str}
    (hn : l.most = some n) (hn2 : n ≤ sizeLine) (hdf : d.params.defaults = []) (hr : Room k callerA)
    (F : ∀ (w : World) (mg : Str → Option Value) (fa : Addr) (h : Heap), YP w h → h.Ns mainGlobals mg → mg d.name = some (.ref fa) →
      ∃ (K : PySem.W.Frag) (fd : FuncData) (sp : Sp), K.In h ∧ (∀ (s : Shared) (u : Value), BindsTo s fd ⟨[u], []⟩ [(x, u)]) ∧
        (∀ (H : Hp) (a : Addr) (ns : List Int), ns.length ≤ n → SqL K H a (ns.map V.int) → sp [.ref a] H (fun v _ => v = .bl true) fun _ _ _ => False) ∧
        ∀ base : Heap, K.In base → base.Ns mainGlobals mg → FnOk l.prog w K mg base (L2N.CX l.prog w) k fa fd [x] sp) :
    PySem.W.WalkO q loose XP YP l.row.toRowW d [] (fun f vs => PySem.call f vs) := by
  refine Att.attach_call hn hdf fun w s₀ s₁ mg mb fa o pm cd doc a vs ns G Y ho hd hcd hmg hobj hints hlen hg => ?_
  obtain ⟨K, fd, sp, KX, hb, hsp, hF⟩ := F w mg fa _ Y G.T.g hmg
  refine law_call KX G.T.g G.T.b G.T.builtins G.T.nolimit hg hobj hints (Nat.le_trans hlen hn2) hr hF hb (fun H hO hS => hsp H a ns hlen hS) fun H e s' h => ?_
  obtain ⟨_, _, _, _, _, _, _, _, _, _, _, _, z⟩ := h
  exact z
/-- the same with tables of code objects -/
theorem walk_LT {l : PySem.W.OpenLaw} {n k : Nat} {q : Program} {loose : List Str} {XP : (Str → Option Value) → Heap → Prop} {YP : World → Heap → Prop} {d : DefRec} {x : Str}
    (hn : l.most = some n) (hn2 : n ≤ sizeLine) (hdf : d.params.defaults = []) (hr : Room k callerA)
    (F : ∀ (w : World) (mg : Str → Option Value) (fa : Addr) (h : Heap), YP w h → h.Ns mainGlobals mg → mg d.name = some (.ref fa) →
      ∃ (K : PySem.W.Frag) (fd : FuncData) (sp : Sp) (cs : List (Addr × Addr)), K.In h ∧ (∀ p ∈ cs, h.get? p.2 = some { cls := .none, data := .fields #[] }) ∧ (∀ p ∈ cs, K.lookup p.2 = none) ∧ (∀ p ∈ cs, PySem.W.CodeHd h p.1 p.2) ∧ (∀ (s : Shared) (u : Value), BindsTo s fd ⟨[u], []⟩ [(x, u)]) ∧
        (∀ (H : Hp) (a : Addr) (ns : List Int), ns.length ≤ n → (∀ p ∈ cs, H p.2 = some (.tbl #[])) → SqL K H a (ns.map V.int) → sp [.ref a] H (fun v _ => v = .bl true) fun _ _ _ => False) ∧
        ∀ base : Heap, K.In base → base.Ns mainGlobals mg → (∀ p ∈ cs, LamX.TabB base mg p.1 p.2) → FnOk l.prog w K mg base (L2N.CX l.prog w) k fa fd [x] sp) :
    PySem.W.WalkO q loose XP YP l.row.toRowW d [] (fun f vs => PySem.call f vs) := by
  refine Att.attach_call hn hdf fun w s₀ s₁ mg mb fa o pm cd doc a vs ns G Y ho hd hcd hmg hobj hints hlen hg => ?_
  obtain ⟨K, fd, sp, cs, KX, hT, nT, C, hb, hsp, hF⟩ := F w mg fa _ Y G.T.g hmg
  refine LamX.law_callTs KX G.T.g G.T.b G.T.builtins G.T.nolimit hg hT nT C G.T.bmain hobj hints (Nat.le_trans hlen hn2) hr hF hb (fun H hH hS => hsp H a ns hlen hH hS) fun H e s' h => ?_
  obtain ⟨_, _, _, _, _, _, _, _, _, _, _, _, z⟩ := h
  exact z
end LR

set_option Elab.async false
set_option linter.all false
set_option maxRecDepth 100000
set_option maxHeartbeats 400000
namespace LR
open PySem PySem.Spec PyProof.Rows L2
section
variable {C : Ctx} {Γ : Gam} {lv : Nat}
/-- the law's own def, that may hold lambdas -/
theorem fn_okL {x y qual : Str} {params : Arguments} {body : List Stmt} {scope : Scope} {f : Addr} {fd : FuncData} {N ps : List Str} {F : Fn} {fuel : Nat} (U : FunD C.K y qual params body scope [] [] f fd) (S : FnScope N ps scope) (k : Knows C Γ lv)
    (hF : Γ.fn x = some F) (hn : F.n = N.length) (hk : F.k = ps.length) (hc : chkSs Γ N fuel scope F.body body = true) (hlv : 2 ≤ lv) (p : He.Defn) (hp : He.fAd C.K p = f)
    (TB : LamX.TabB C.base C.mg (He.cT C.K p).1 (He.cT C.K p).2) (hT : ((He.cT C.K p).2, qual ++ ".<locals>." ++ "<lambda>") ∈ C.T) (hu : ∀ q ∈ C.T, q.1 = (He.cT C.K p).2 → q.2 = qual ++ ".<locals>." ++ "<lambda>") :
    FnOk C.P C.w C.K C.mg C.base (L2N.CX C.P C.w) (C.lg (lv + 1)) f fd ps (spC C.K C.cn C.mg (callN Γ (lv + 1) x) F.k) := by
  rw [← C.lh_succ]
  obtain ⟨oc, od, dV, kV, doc, pm, an, cdv, ct, osl, rfl, lk, hcd, _, _⟩ := U.ex
  obtain ⟨c, rfl⟩ := He.codeIn_ref hcd
  have e : (He.cT C.K p).1 = c := He.codeOf_eq (by rw [hp]; exact lk) rfl
  rw [e] at TB
  refine fn_of lk hcd S (fun vs H Q E h => ?_) (fun A outer s H vs Q E hr h => ?_)
  · obtain ⟨w, ds, _, _, _, e, _⟩ := h
    rw [e, hk]
  · have hl : ∀ X : Cx, X = cxOf (L2N.CX C.P C.w) C.P C.w C.K C.mg C.base N qual scope f (.ref c) A outer s H E → LamF C lv X := fun X hX => by
      have e1 : X.base = C.base := by rw [hX]; rfl
      have e2 : X.mg = C.mg := by rw [hX]; rfl
      have e3 : X.env.qual = qual ++ ".<locals>." := by rw [hX]; rfl
      have e4 : X.env.code = .ref c := by rw [hX]; rfl
      exact lamF_of (qual := qual ++ ".<locals>.") (c := c) (P := (He.cT C.K p).2) hlv e1 e2 e3 e4 TB hT hu
    exact fn_core S k hF hn hk hc (.ref c) A outer s H vs Q E hr (fun _ _ => hl _ rfl) h
end
end LR

set_option Elab.async false
set_option linter.all false
set_option maxRecDepth 100000
set_option maxHeartbeats 400000
namespace LR
open PySem PySem.Spec PyProof.Rows L2
/-! ### a def that calls what it gets: try: a() except X as m: return e; return rs -/
theorem gives_tab {C : Ctx} {Γ : Gam} (blt : C.mg "isinstance" = none) (exc : ∀ y l, tabX Γ y = some l → ∃ A, XcH C.K C.mg y l A)
    {Ng : List Str} {x a y m rs q : Str} {sg : Scope} {g : Addr} {cdg : Value} {i j : Nat} {e : Expr} {tb : List (Str × D)} {p1 p2 p3 p4 p6 p7 p8 p9 p10 : Pos}
    (hNd : Ng.Nodup) (hi : Ng[i]? = some m) (hlm : lo sg m = true) (okm : okN m = true) (hgy : LR.gl sg y = true) (oky : okN y = true) (h0 : ∀ f : Addr, (L2.start Ng [V.ref f])[0]? = some (some (V.ref f))) (hne : tb ≠ [])
    (htb : tb.all (fun (z, d) => match tabX Γ z with
      | some l => decide (tab y l = some true) && xevB l m sg e d
      | none => false) = true) {X : Cx} (hK : X.K = C.K) (hmg : X.mg = C.mg) :
    LRN.GivesTo X Ng x sg g cdg [.Try [.Expr (.Call (.Name a p1) [] [] p2) p3] [.ExceptHandler (some (.Name y p4)) (some m) [.Return (some e) p6] p7] [] [] p8, .Return (some (.Constant (.str rs) j p9)) p10] a q (TTl C (.str rs) tb) := by
  intro f c' s H Q tl act hc h
  obtain ⟨E, htl, hE⟩ := h
  generalize hY : (cxOf C8.CX0 X.prog X.w X.K X.mg X.base Ng x sg g cdg X.A X.stack s H C8.E0).nox = Y at *
  have yK : Y.K = C.K := by rw [← hY]; exact hK
  have ymg : Y.mg = C.mg := by rw [← hY]; exact hmg
  have ysc : Y.env.scope = sg := by rw [← hY]; rfl
  have yN : Y.N = Ng := by rw [← hY]; rfl
  have all : ∀ z d, tab z tb = some d → ∃ l A v, XcH Y.K Y.mg z l A ∧ (∃ C' : Addr, Y.mg y = some (.ref C') ∧ PySem.W.exmOne Y.K (.ref A) (.ref C') = some true) ∧ RvC Y.K v d ∧ ∀ (a : Addr) (oe : Obj) (pn : List (Addr × Obj)) (dO : Option Addr), L2N.Zn (.ref A) dO oe → (∃ vs, oe.data = .fields vs) → PE (Y.suite a ((a, oe) :: pn)) e (fun σ H Q => exPre i a dO σ H ∧ Q v H) := by
    intro z d hz
    have ha := List.all_eq_true.mp htb _ (tab_mem hz)
    simp only at ha
    split at ha
    · rename_i l hl
      simp only [Bool.and_eq_true, decide_eq_true_eq] at ha
      obtain ⟨A, F⟩ := exc _ l hl
      rw [← yK, ← ymg] at F
      have hxe := xevB_ok ha.2
      obtain ⟨C', hg, _, hex⟩ := F.of y true (tab_mem ha.1)
      have hb : Y.mg "isinstance" = none := by rw [ymg]; exact blt
      have mk : ∀ (a : Addr) (oe : Obj) (pn : List (Addr × Obj)) (dO : Option Addr), L2N.Zn (.ref A) dO oe → (∃ vs, oe.data = .fields vs) → ∃ v, (∀ w, Rv Y.K w v d) ∧ PE (Y.suite a ((a, oe) :: pn)) e (fun σ H Q => exPre i a dO σ H ∧ Q v H) :=
        fun a oe pn dO hz hf => xev_ok F hz hf hb (by rw [yN]; exact hi) hlm ysc okm 20 e d hxe
      have one : ∀ v v' : V, (∀ w, Rv Y.K w v d) → (∀ w, Rv Y.K w v' d) → d.flat = true → v = v' := fun v v' r r' hfl => by
        have q := r ⟨fun _ => none, [], [], []⟩
        have q' := r' ⟨fun _ => none, [], [], []⟩
        cases q <;> first | (exfalso; simp [D.flat] at hfl; done) | (cases q'; rfl)
      have hfl : d.flat = true := by
        have := ha.2
        unfold xevB at this
        split at this
        · unfold eqFl at this
          split at this
          · rfl
          · rfl
          · cases this
        · cases this
      obtain ⟨v0, r0⟩ : ∃ v0, ∀ w, Rv Y.K w v0 d := by
        cases d with
        | bl b => exact ⟨.bl b, fun w => .bl b⟩
        | str s => exact ⟨.str s, fun w => .str s⟩
        | int s => exact ⟨.int s, fun w => .int s⟩
        | non => exact ⟨.non, fun w => .non⟩
        | _ => simp [D.flat] at hfl
      refine ⟨l, A, v0, F, ⟨C', hg, hex⟩, r0, fun a oe pn dO hz hf => ?_⟩
      obtain ⟨v, r, pe⟩ := mk a oe pn dO hz hf
      rw [one v0 v r0 r hfl]
      exact pe
    · cases ha
  obtain ⟨C', hC', _⟩ : ∃ C' : Addr, Y.mg y = some (.ref C') ∧ True := by
    cases tb with
    | nil => exact absurd rfl hne
    | cons q r =>
      obtain ⟨l, A, v, F, ⟨C', hC, _⟩, _⟩ := all q.1 q.2 (by simp [tab])
      exact ⟨C', hC, trivial⟩
  have hs : Y.stack = Y.env :: Y.outer := by rw [← hY]; rfl
  have hf : Y.env.frame = some Y.env.locals := by rw [← hY]; rfl
  have hgl : Gl Y y := by
    unfold Gl Env.kindOf
    rw [ysc]
    exact gl_ok hgy
  have hlk : Y.env.kindOf m = some .local := by
    unfold Env.kindOf
    rw [ysc]
    exact lo_ok hlm
  refine ⟨_, pss_cons (L2N.ps_try_as (X := Y) (tb := fun W' => fun D σ H => ∃ Ech : XK, (∀ cls d σ' H', Ech cls d H' → W' cls d σ' H') ∧ σ[0]? = some (some (.ref f)) ∧ H c' = some (LamX.CodeO c' q) ∧ tl Ech H fun _ H' => D.nx σ H')
    (ts := fun (a : Addr) (cls : Value) (d : Option Addr) (D : Ends) (σ : L2.St) (H : Hp) => XDH d H ∧ (∃ σ0 : L2.St, σ = σ0.set i (some (V.ref a))) ∧ ∃ (z : Str) (dd : LR.D), tab z tb = some dd ∧ Y.mg z = some cls ∧ ∀ v : V, RvC Y.K v dd → D.rt v H)
    hs hf (by rw [yN]; exact hNd) (by rw [yN]; exact hi) hlk ⟨hgl, (okN_ok oky).1, .inl hC'⟩ LRN.takes0 (fun W' pn xe tk' _ => ?_) (fun a oe cls d pn hz hfl => ?_)) (pss_one (ps_ret pe_str)), ?_⟩
  · refine ⟨fun pins s' σ H' D I h' => ?_⟩
    obtain ⟨Ech, hW, h1, h2, h3⟩ := h'
    subst hY
    have hp := act W' pn xe Ech p1 p2 tk' hW
    exact (pss_one (ps_expr hp (comp_sw rfl))).run pins s' σ H' D I ⟨h1, h2, h3⟩
  · refine ⟨fun pins s σ H D I ⟨hd, ⟨σ0, hσ⟩, z, dd, ht, hm, q⟩ => ?_⟩
    obtain ⟨l, A, v, F, hex, hv, hpe⟩ := all z dd ht
    have hcls : cls = .ref A := Option.some.inj (hm.symm.trans F.g)
    subst hcls hσ
    refine (pss_one (ps_ret (hpe a oe pn d hz hfl))).run pins s _ H D I ⟨⟨?_, hd⟩, q v hv⟩
    have hl := I.len
    rw [List.length_set] at hl
    have hil : i < Y.N.length := by rw [yN]; exact (List.getElem?_eq_some_iff.mp hi).1
    have hl2 : σ0.length = Y.N.length := hl
    rw [List.getElem?_set_self (by omega)]
  · have hQ : (fun (_ : V) (H' : Hp) => ∃ o, okOf (D.str rs) = some o ∧ ∀ v, RvC C.K v o → Q v H') = fun (_ : V) (H' : Hp) => Q (.str rs) H' := by
      funext u H'
      refine propext ⟨fun ⟨o, ho, h⟩ => ?_, fun h => ⟨.str rs, rfl, fun v r => ?_⟩⟩
      · cases (show some (D.str rs) = some o from ho)
        exact h (.str rs) fun w => .str rs
      · have r' := r ⟨fun _ => none, [], [], []⟩
        cases r'
        exact h
    rw [hQ] at htl
    refine ⟨E, fun cls d σ' H' hEc => ?_, h0 f, hc, htl⟩
    obtain ⟨hd, z, dd, ht, hm, hq⟩ := hE cls d H' hEc
    obtain ⟨l, A, v, F, ⟨C2, hC2, hex⟩, hv, hpe⟩ := all z dd ht
    have e2 : C' = C2 := by
      have := hC'.symm.trans hC2
      cases this
      rfl
    subst e2
    have hm' : Y.mg z = some cls := by rw [ymg]; exact hm
    have hcls : cls = .ref A := Option.some.inj (hm'.symm.trans F.g)
    subst hcls
    exact ⟨true, hex, fun _ a ha => ⟨hd, ⟨σ', rfl⟩, z, dd, ht, hm', fun v' hv' => hq v' H' (by rw [← yK]; exact hv') (HExt.refl _)⟩, fun q => Bool.noConfusion q⟩
/-! ### a def that calls what it gets, which never ends well: try: return a() == rs except X as m: return e -/
theorem gives_tabR {C : Ctx} {Γ : Gam} (blt : C.mg "isinstance" = none) (exc : ∀ y l, tabX Γ y = some l → ∃ A, XcH C.K C.mg y l A)
    {Ng : List Str} {x a y m rs q : Str} {sg : Scope} {g : Addr} {cdg : Value} {i r0 : Nat} {j : _} {e : Expr} {tb : List (Str × D)} {p1 p2 p3 p4 p6 p7 p8 p9 p10 : Pos}
    (hNd : Ng.Nodup) (hi : Ng[i]? = some m) (hlm : lo sg m = true) (okm : okN m = true) (hgy : LR.gl sg y = true) (oky : okN y = true) (h0 : ∀ f : Addr, (L2.start Ng [V.ref f])[0]? = some (some (V.ref f))) (hne : tb ≠ [])
    (htb : tb.all (fun (z, d) => match tabX Γ z with
      | some l => decide (tab y l = some true) && xevB l m sg e d
      | none => false) = true) {X : Cx} (hK : X.K = C.K) (hmg : X.mg = C.mg) :
    LRN.GivesTo X Ng x sg g cdg [.Try [.Return (some (.Compare (.Call (.Name a p1) [] [] p2) [.Eq] [.Constant (.str rs) j p9] p10)) p3] [.ExceptHandler (some (.Name y p4)) (some m) [.Return (some e) p6] p7] [] [] p8] a q (TTl C (.ref r0) tb) := by
  intro f c' s H Q tl act hc h
  obtain ⟨E, htl, hE⟩ := h
  generalize hY : (cxOf C8.CX0 X.prog X.w X.K X.mg X.base Ng x sg g cdg X.A X.stack s H C8.E0).nox = Y at *
  have yK : Y.K = C.K := by rw [← hY]; exact hK
  have ymg : Y.mg = C.mg := by rw [← hY]; exact hmg
  have ysc : Y.env.scope = sg := by rw [← hY]; rfl
  have yN : Y.N = Ng := by rw [← hY]; rfl
  have all : ∀ z d, tab z tb = some d → ∃ l A v, XcH Y.K Y.mg z l A ∧ (∃ C' : Addr, Y.mg y = some (.ref C') ∧ PySem.W.exmOne Y.K (.ref A) (.ref C') = some true) ∧ RvC Y.K v d ∧ ∀ (a : Addr) (oe : Obj) (pn : List (Addr × Obj)) (dO : Option Addr), L2N.Zn (.ref A) dO oe → (∃ vs, oe.data = .fields vs) → PE (Y.suite a ((a, oe) :: pn)) e (fun σ H Q => exPre i a dO σ H ∧ Q v H) := by
    intro z d hz
    have ha := List.all_eq_true.mp htb _ (tab_mem hz)
    simp only at ha
    split at ha
    · rename_i l hl
      simp only [Bool.and_eq_true, decide_eq_true_eq] at ha
      obtain ⟨A, F⟩ := exc _ l hl
      rw [← yK, ← ymg] at F
      have hxe := xevB_ok ha.2
      obtain ⟨C', hg, _, hex⟩ := F.of y true (tab_mem ha.1)
      have hb : Y.mg "isinstance" = none := by rw [ymg]; exact blt
      have mk : ∀ (a : Addr) (oe : Obj) (pn : List (Addr × Obj)) (dO : Option Addr), L2N.Zn (.ref A) dO oe → (∃ vs, oe.data = .fields vs) → ∃ v, (∀ w, Rv Y.K w v d) ∧ PE (Y.suite a ((a, oe) :: pn)) e (fun σ H Q => exPre i a dO σ H ∧ Q v H) :=
        fun a oe pn dO hz hf => xev_ok F hz hf hb (by rw [yN]; exact hi) hlm ysc okm 20 e d hxe
      have one : ∀ v v' : V, (∀ w, Rv Y.K w v d) → (∀ w, Rv Y.K w v' d) → d.flat = true → v = v' := fun v v' r r' hfl => by
        have q := r ⟨fun _ => none, [], [], []⟩
        have q' := r' ⟨fun _ => none, [], [], []⟩
        cases q <;> first | (exfalso; simp [D.flat] at hfl; done) | (cases q'; rfl)
      have hfl : d.flat = true := by
        have := ha.2
        unfold xevB at this
        split at this
        · unfold eqFl at this
          split at this
          · rfl
          · rfl
          · cases this
        · cases this
      obtain ⟨v0, r0⟩ : ∃ v0, ∀ w, Rv Y.K w v0 d := by
        cases d with
        | bl b => exact ⟨.bl b, fun w => .bl b⟩
        | str s => exact ⟨.str s, fun w => .str s⟩
        | int s => exact ⟨.int s, fun w => .int s⟩
        | non => exact ⟨.non, fun w => .non⟩
        | _ => simp [D.flat] at hfl
      refine ⟨l, A, v0, F, ⟨C', hg, hex⟩, r0, fun a oe pn dO hz hf => ?_⟩
      obtain ⟨v, r, pe⟩ := mk a oe pn dO hz hf
      rw [one v0 v r0 r hfl]
      exact pe
    · cases ha
  obtain ⟨C', hC', _⟩ : ∃ C' : Addr, Y.mg y = some (.ref C') ∧ True := by
    cases tb with
    | nil => exact absurd rfl hne
    | cons q r =>
      obtain ⟨l, A, v, F, ⟨C', hC, _⟩, _⟩ := all q.1 q.2 (by simp [tab])
      exact ⟨C', hC, trivial⟩
  have hs : Y.stack = Y.env :: Y.outer := by rw [← hY]; rfl
  have hf : Y.env.frame = some Y.env.locals := by rw [← hY]; rfl
  have hgl : Gl Y y := by
    unfold Gl Env.kindOf
    rw [ysc]
    exact gl_ok hgy
  have hlk : Y.env.kindOf m = some .local := by
    unfold Env.kindOf
    rw [ysc]
    exact lo_ok hlm
  refine ⟨_, pss_one (L2N.ps_try_as (X := Y) (tb := fun W' => fun D σ H => ∃ Ech : XK, (∀ cls d σ' H', Ech cls d H' → W' cls d σ' H') ∧ σ[0]? = some (some (.ref f)) ∧ H c' = some (LamX.CodeO c' q) ∧ tl Ech H fun _ _ => False)
    (ts := fun (a : Addr) (cls : Value) (d : Option Addr) (D : Ends) (σ : L2.St) (H : Hp) => XDH d H ∧ (∃ σ0 : L2.St, σ = σ0.set i (some (V.ref a))) ∧ ∃ (z : Str) (dd : LR.D), tab z tb = some dd ∧ Y.mg z = some cls ∧ ∀ v : V, RvC Y.K v dd → D.rt v H)
    hs hf (by rw [yN]; exact hNd) (by rw [yN]; exact hi) hlk ⟨hgl, (okN_ok oky).1, .inl hC'⟩ LRN.takes0 (fun W' pn xe tk' _ => ?_) (fun a oe cls d pn hz hfl => ?_)), ?_⟩
  · refine ⟨fun pins s' σ H' D I h' => ?_⟩
    obtain ⟨Ech, hW, h1, h2, h3⟩ := h'
    subst hY
    have hp := act W' pn xe Ech p1 p2 tk' hW
    exact (pss_one (ps_ret (pe_cmpR (op := .Eq) (r := fun _ _ _ _ => False) (fun _ _ _ _ _ _ _ _ _ _ _ _ z => z.elim) hp pe_str (set_marks rfl)))).run pins s' σ H' D I ⟨h1, h2, h3⟩
  · refine ⟨fun pins s σ H D I ⟨hd, ⟨σ0, hσ⟩, z, dd, ht, hm, q⟩ => ?_⟩
    obtain ⟨l, A, v, F, hex, hv, hpe⟩ := all z dd ht
    have hcls : cls = .ref A := Option.some.inj (hm.symm.trans F.g)
    subst hcls hσ
    refine (pss_one (ps_ret (hpe a oe pn d hz hfl))).run pins s _ H D I ⟨⟨?_, hd⟩, q v hv⟩
    have hl := I.len
    rw [List.length_set] at hl
    have hil : i < Y.N.length := by rw [yN]; exact (List.getElem?_eq_some_iff.mp hi).1
    have hl2 : σ0.length = Y.N.length := hl
    rw [List.getElem?_set_self (by omega)]
  · have hQ : (fun (_ : V) (H' : Hp) => ∃ o, okOf (D.ref r0) = some o ∧ ∀ v, RvC C.K v o → Q v H') = fun (_ : V) (_ : Hp) => False := by
      funext u H'
      refine propext ⟨fun ⟨o, ho, h⟩ => ?_, fun h => h.elim⟩
      cases (show none = some o from ho)
    rw [hQ] at htl
    refine ⟨E, fun cls d σ' H' hEc => ?_, h0 f, hc, htl⟩
    obtain ⟨hd, z, dd, ht, hm, hq⟩ := hE cls d H' hEc
    obtain ⟨l, A, v, F, ⟨C2, hC2, hex⟩, hv, hpe⟩ := all z dd ht
    have e2 : C' = C2 := by
      have := hC'.symm.trans hC2
      cases this
      rfl
    subst e2
    have hm' : Y.mg z = some cls := by rw [ymg]; exact hm
    have hcls : cls = .ref A := Option.some.inj (hm'.symm.trans F.g)
    subst hcls
    exact ⟨true, hex, fun _ a ha => ⟨hd, ⟨σ', rfl⟩, z, dd, ht, hm', fun v' hv' => hq v' H' (by rw [← yK]; exact hv') (HExt.refl _)⟩, fun q => Bool.noConfusion q⟩
end LR

set_option Elab.async false
set_option linter.all false
set_option maxRecDepth 100000
set_option maxHeartbeats 400000
namespace LR
open PySem PySem.Spec PyProof.Rows L2
def chkTb (Γ : Gam) (sg : Scope) (y m : Str) (e : Expr) (tb : List (Str × D)) : Bool := tb.all fun (z, d) => match tabX Γ z with
  | some l => decide (tab y l = some true) && xevB l m sg e d
  | none => false
/-- the check of a def that calls what it gets -/
def chkLm (Γ : Gam) (Ng : List Str) (a : Str) (sg : Scope) (okv : D) (tb : List (Str × D)) : List Stmt → Bool
  | [.Try [.Expr (.Call (.Name a' _) [] [] _) _] [.ExceptHandler (some (.Name y _)) (some m) [.Return (some e) _] _] [] [] _, .Return (some (.Constant (.str rs) _ _)) _] =>
    decide (a' = a) && eqDb okv (.str rs) && nmAt Ng (Ng.idxOf m) m && lo sg m && okN m && LR.gl sg y && okN y && !tb.isEmpty && chkTb Γ sg y m e tb
  | _ => false
theorem xh_of {C : Ctx} {Γ : Gam} (h1 : ∀ y l, (y, l) ∈ Γ.exc → ∃ A, XcF C.K C.mg y l A) (h2 : ∀ y f l, (y, f, l) ∈ Γ.xsi → ∃ A D, XcH C.K C.mg y l A ∧ SupF C.P C.K C.mg A f D ∧ Binds C.K D.fd [D.n0, D.n1] []) (y : Str) (l : List (Str × Bool)) (h : tabX Γ y = some l) : ∃ A, XcH C.K C.mg y l A := by
  unfold tabX at h
  split at h
  · rename_i l' hl
    cases h
    obtain ⟨A, F⟩ := h1 _ _ (tab_mem hl)
    exact ⟨A, F.toXcH⟩
  · obtain ⟨p, hp, rfl⟩ := Option.map_eq_some_iff.mp h
    obtain ⟨A, D, F, _⟩ := h2 _ p.1 p.2 (tab_mem hp)
    exact ⟨A, F⟩
theorem lmF_of {C : Ctx} {Γ : Gam} (blt : C.mg "isinstance" = none) (exc : ∀ y l, tabX Γ y = some l → ∃ A, XcH C.K C.mg y l A) {g a : Str} {ga : Addr} {okv : D} {tb : List (Str × D)} {params : Arguments} {body : List Stmt} {sg : Scope} {fd : FuncData} {Ng : List Str}
    (hm : C.mg g = some (.ref ga)) (U : FunD C.K g g params body sg [] [] ga fd) (B : L2.Binds C.K fd [a] []) (S : FnScope Ng [a] sg) (hN : Ng[0]? = some a) (hv : LR.vs sg a = true) (oka : okN a = true) (h : chkLm Γ Ng a sg okv tb body = true) : LmF C g okv tb := by
  obtain ⟨oc, od, dV, kV, doc, pm, an, cdv, ct, osl, rfl, lk, hcd, _, _⟩ := U.ex
  unfold chkLm at h
  split at h
  · rename_i a' p2 p1 p3 y p4 m e p6 p7 p8 rs j p9 p10
    simp only [Bool.and_eq_true, decide_eq_true_eq, Bool.not_eq_true'] at h
    obtain ⟨⟨⟨⟨⟨⟨⟨⟨rfl, h1⟩, h2⟩, h3⟩, h4⟩, h5⟩, h6⟩, h7⟩, h8⟩ := h
    have := eqDb_ok h1
    subst this
    have h0 : ∀ f : Addr, (L2.start Ng [V.ref f])[0]? = some (some (V.ref f)) := fun f => rfl
    refine ⟨ga, a', params, _, sg, dV, kV, doc, pm, cdv, ct, oc, an, od, osl, Ng, hm, U.kp, lk, hcd, B, S, hN, vs_ok hv, oka, fun z d hz => ?_, fun X q _ _ hK hmg => ?_⟩
    · have ha := List.all_eq_true.mp h8 _ (tab_mem hz)
      simp only at ha
      split at ha
      · simp only [Bool.and_eq_true] at ha
        have := ha.2
        unfold xevB at this
        split at this
        · unfold eqFl at this
          split at this
          · exact ⟨.bl _, fun w => .bl _⟩
          · exact ⟨.str _, fun w => .str _⟩
          · cases this
        · cases this
      · cases ha
    · exact gives_tab blt exc S.nd (nmAt_ok h2) h3 h4 h5 h6 h0 (fun e => by rw [e] at h7; cases h7) h8 hK hmg
  · cases h
def isRef : D → Bool
  | .ref _ => true
  | _ => false
theorem isRef_ok {d : D} (h : isRef d = true) : ∃ n, d = .ref n := by
  cases d <;> first | exact ⟨_, rfl⟩ | (simp [isRef] at h; done)
def chkLmR (Γ : Gam) (Ng : List Str) (a : Str) (sg : Scope) (okv : D) (tb : List (Str × D)) : List Stmt → Bool
  | [.Try [.Return (some (.Compare (.Call (.Name a' _) [] [] _) [.Eq] [.Constant (.str _) _ _] _)) _] [.ExceptHandler (some (.Name y _)) (some m) [.Return (some e) _] _] [] [] _] =>
    decide (a' = a) && isRef okv && nmAt Ng (Ng.idxOf m) m && lo sg m && okN m && LR.gl sg y && okN y && !tb.isEmpty && chkTb Γ sg y m e tb
  | _ => false
theorem lmF_ofR {C : Ctx} {Γ : Gam} (blt : C.mg "isinstance" = none) (exc : ∀ y l, tabX Γ y = some l → ∃ A, XcH C.K C.mg y l A) {g a : Str} {ga : Addr} {okv : D} {tb : List (Str × D)} {params : Arguments} {body : List Stmt} {sg : Scope} {fd : FuncData} {Ng : List Str}
    (hm : C.mg g = some (.ref ga)) (U : FunD C.K g g params body sg [] [] ga fd) (B : L2.Binds C.K fd [a] []) (S : FnScope Ng [a] sg) (hN : Ng[0]? = some a) (hv : LR.vs sg a = true) (oka : okN a = true) (h : chkLmR Γ Ng a sg okv tb body = true) : LmF C g okv tb := by
  obtain ⟨oc, od, dV, kV, doc, pm, an, cdv, ct, osl, rfl, lk, hcd, _, _⟩ := U.ex
  unfold chkLmR at h
  split at h
  · rename_i a' p1 p2 rs j p9 p10 p3 y p4 m e p6 p7 p8
    simp only [Bool.and_eq_true, decide_eq_true_eq, Bool.not_eq_true'] at h
    obtain ⟨⟨⟨⟨⟨⟨⟨⟨rfl, h1⟩, h2⟩, h3⟩, h4⟩, h5⟩, h6⟩, h7⟩, h8⟩ := h
    obtain ⟨r0, rfl⟩ := isRef_ok h1
    have h0 : ∀ f : Addr, (L2.start Ng [V.ref f])[0]? = some (some (V.ref f)) := fun f => rfl
    refine ⟨ga, a', params, _, sg, dV, kV, doc, pm, cdv, ct, oc, an, od, osl, Ng, hm, U.kp, lk, hcd, B, S, hN, vs_ok hv, oka, fun z d hz => ?_, fun X q _ _ hK hmg => ?_⟩
    · have ha := List.all_eq_true.mp h8 _ (tab_mem hz)
      simp only at ha
      split at ha
      · simp only [Bool.and_eq_true] at ha
        have := ha.2
        unfold xevB at this
        split at this
        · unfold eqFl at this
          split at this
          · exact ⟨.bl _, fun w => .bl _⟩
          · exact ⟨.str _, fun w => .str _⟩
          · cases this
        · cases this
      · cases ha
    · exact gives_tabR blt exc S.nd (nmAt_ok h2) h3 h4 h5 h6 h0 (fun e => by rw [e] at h7; cases h7) h8 hK hmg
  · cases h
end LR

set_option Elab.async false
set_option linter.all false
set_option maxRecDepth 100000
set_option maxHeartbeats 4000000
namespace LR
open PySem PySem.Spec PyProof.Rows L2
/-! ### the Hook with exception classes that have an own __init__ -/
abbrev FnX : Type := Option (Str × Str × Arguments × FuncBody × Scope × Addr × List Str × Addr)
def fnX (K : PySem.W.Frag) (p : Str × Option Str) : FnX := match K.lookup (He.fAd K p) with
  | some ⟨_, _, .func fd, _⟩ => some (fd.name, fd.qualname, fd.params, fd.body, fd.scope, fd.globals, fd.closure.map (·.1), fd.builtins)
  | _ => none
structure SupE where
  cls : Str
  fld : Str
  qual : Str
  params : Arguments
  body : List Stmt
  scope : Scope
  n0 : Str
  n1 : Str
  file : Str
  tb : List (Str × Bool)
def SupE.val (y : SupE) : FnX := some ("__init__", y.qual, y.params, .stmts y.body, y.scope, mainGlobals, ["__class__"], builtinsNs)
def oexB (K : PySem.W.Frag) (C : Addr) : Bool := match K.lookup C with
  | some ⟨.type "type", _, .cls cd, sl⟩ => (match cd.mro, sl.toList with
    | .ref C' :: bm, [_, _, _, _, some (.builtin n), _] => decide (C' = C) && decide (n = "ValueError.__new__") && !cd.hasDel && cd.hasDict && PySem.HandSPX.refsVE bm
    | _, _ => false)
  | _ => false
theorem oexB_ok {K : PySem.W.Frag} {C : Addr} (h : oexB K C = true) : ∃ nm q N bs bm sn sub ab col dd k0 k1 k2 k3 k5, K.lookup C = some (excClassObj nm q C N bs bm true sn sub ab col dd k0 k1 k2 k3 k5 "ValueError.__new__") ∧ PySem.HandSPX.refsVE bm = true := by
  unfold oexB at h
  split at h
  · rename_i dd cd sl ho
    split at h
    · rename_i C' bm k0 k1 k2 k3 n k5 hm hs
      simp only [Bool.and_eq_true, decide_eq_true_eq, Bool.not_eq_true'] at h
      obtain ⟨⟨⟨⟨rfl, rfl⟩, hdel⟩, hdc⟩, ht⟩ := h
      obtain ⟨nm, bs, mro, ns, qn, hd, sn, sub, ab, col, del⟩ := cd
      dsimp only at hm hdel hdc
      subst hm hdel hdc
      have hsl : sl = #[k0, k1, k2, k3, some (.builtin "ValueError.__new__"), k5] := by
        apply Array.toList_inj.mp
        exact hs
      subst hsl
      exact ⟨nm, qn, ns, bs, bm, sn, sub, ab, col, dd, k0, k1, k2, k3, k5, ho, ht⟩
    · cases h
  · cases h
def xchOk (K : PySem.W.Frag) (C : Addr) (tb : List (Str × Bool)) : Bool := (PySem.W.subIn K (.ref C) (.type "BaseException") == some true) &&
      (PySem.W.findIn K (.ref C) "__getattribute__" == some (some (.builtin "BaseException.__getattribute__"))) && (PySem.W.findIn K (.ref C) "__getattr__" == some none) && PySem.W.hasDictIn K C &&
      (PySem.W.findIn K (.ref C) "__class__" == some (some (.builtin "object.__class__"))) && (PySem.W.specialIn K (.builtin "object.__class__") "__get__" == some (some (.builtin "getset_descriptor.__get__"))) &&
      (PySem.W.takesIn K (.builtin "object.__class__") == some true) && (PySem.W.mroIn K C (.type "object") == some true) && tb.all (xcOf K C)
theorem xchOk_ok {K : PySem.W.Frag} {h : Heap} {mg : Str → Option Value} (X : K.In h) (G : h.Ns mainGlobals mg) {C : Addr} {y : Str} {tb : List (Str × Bool)} (hC : mg y = some (.ref C)) (c : xchOk K C tb = true) : XcH K mg y tb C := by
  unfold xchOk at c
  simp only [Bool.and_eq_true, beq_iff_eq] at c
  obtain ⟨⟨⟨⟨⟨⟨⟨⟨c3, c5⟩, c6⟩, c7⟩, c8⟩, c9⟩, c10⟩, c11⟩, c12⟩ := c
  refine ⟨hC, ⟨c5, c6, c3, c7, c8, c9, c10, c11⟩, fun c b hm => ?_⟩
  have h := List.all_eq_true.mp c12 _ hm
  unfold xcOf at h
  simp only at h
  split at h
  · rename_i C' hC'
    simp only [Bool.and_eq_true, beq_iff_eq] at h
    exact ⟨C', PySem.W.mg_of X G hC', h.1, h.2⟩
  · cases h
/-- the function's objects -/
def supFn (K : PySem.W.Frag) (C : Addr) (y : SupE) : Bool := match K.lookup (He.ma K C "__init__") with
  | some ⟨_, _, .func fd, _⟩ => (match fd.code, fd.closure, fd.defaults with
    | .ref cda, [(_, cc)], .none => PySem.W.codeIn K (.ref cda) y.qual && (match K.lookup cda with
        | some ⟨_, _, .fields vs, _⟩ => (match (vs[2]? : Option Value) with
          | some (.str f _) => decide (f = y.file)
          | _ => false)
        | _ => false) && (match K.lookup cc with
        | some ⟨_, _, .cell (some (.ref C')), _⟩ => decide (C' = C)
        | _ => false)
    | _, _, _ => false)
  | _ => false
def supOk (K : PySem.W.Frag) (y : SupE) : Bool := let C := He.ga K y.cls
  (PySem.W.nsIn K mainGlobals y.cls == some (some (.ref C))) && oexB K C && (PySem.W.findIn K (.ref C) "__setattr__" == some (some (.builtin "object.__setattr__"))) && (PySem.W.subIn K (.ref C) (.type "BaseException") == some true) && (PySem.W.typeIn K (.ref C) == some (.type "type")) && PySem.W.keepIn K (.ref C) &&
  (PySem.W.findIn K (.ref C) "__init__" == some (some (.ref (He.ma K C "__init__")))) && (PySem.W.typeIn K (.ref (He.ma K C "__init__")) == some (.type "function")) && supFn K C y && (PySem.W.mroIn K C (.ref C) == some true) && (PySem.W.nsIn K mainGlobals "super" == some none) &&
  (PySem.W.ks_superIn K C C "__init__" == some (some (.builtin "ValueError.__init__"))) && (PySem.W.subIn K (.ref C) (.type "ValueError") == some true) && (PySem.W.nsIn K cStatics "thirdparty.any" == some none) && (PySem.W.findIn K (.ref C) y.fld == some none) && (PySem.W.kitOne K (.ref C) (.type "ValueError") == some true) && xchOk K C y.tb
/-- what the text says -/
def supB (y : SupE) : Bool := (match y.body with
    | [.Expr (.Call (.Attribute (.Call (.Name s _) [] [] _) i p2) [.Constant (.str _) _ _] [] p4) _, .Assign [.Attribute (.Name a _) f _] (.Name b _) _] => decide (s = "super") && decide (i = "__init__") && (p2.endLine == p4.line) && decide (a = y.n0) && decide (b = y.n1) && decide (f = y.fld)
    | _ => false) && (match (y.params.posonlyargs ++ y.params.args).head? with
    | some ar => decide (ar.arg = y.n0)
    | none => false) && decide (y.n0 ≠ y.n1) && !(y.n0 == ("__debug__" : Str)) && !(y.n1 == ("__debug__" : Str)) && decide (y.scope.kind = .function) && !y.scope.isCoroutine && !y.scope.isGenerator && (y.scope.names.all fun x => decide (x.2 ≠ .cell)) &&
    decide (y.scope.names.lookup y.n0 = some .local) && decide (y.scope.names.lookup y.n1 = some .local) && decide (y.scope.names.lookup ("super" : Str) = some .globalImplicit) && decide (y.scope.names.lookup ("__class__" : Str) = some .free)
theorem supF_of {P : Program} {K : PySem.W.Frag} {h : Heap} {mg : Str → Option Value} (X : K.In h) (G : h.Ns mainGlobals mg) {y : SupE} (hv : fnX K (y.cls, some "__init__") = y.val) (c : supOk K y = true) (b : supB y = true) (hf : ((P.main.file : Str) == y.file) = true) (ht : (P.main.scope.names.lookup ("super" : Str)).isSome = false)
    (hb : ∀ (kV doc pm : Value) (an : Option Addr) (cdv ct : Value) (cc : Addr) (us : List Value), us.length = 2 → bindArgs (PySem.W.ksFn "__init__" y.qual y.params y.body y.scope .none kV doc pm an cdv ct cc) ⟨us, []⟩ = pure ([y.n0, y.n1].zip us)) :
    ∃ A D, XcH K mg y.cls y.tb A ∧ SupF P K mg A y.fld D ∧ Binds K D.fd [D.n0, D.n1] [] := by
  unfold supOk at c
  simp only [Bool.and_eq_true, beq_iff_eq] at c
  obtain ⟨⟨⟨⟨⟨⟨⟨⟨⟨⟨⟨⟨⟨⟨⟨⟨c1, c2⟩, c3⟩, c4⟩, c5⟩, c6⟩, c7⟩, c8⟩, c9⟩, c10⟩, c11⟩, c12⟩, c13⟩, c14⟩, c15⟩, ckv⟩, c16⟩ := c
  unfold supB at b
  simp only [Bool.and_eq_true, decide_eq_true_eq, Bool.not_eq_true', List.all_eq_true] at b
  obtain ⟨⟨⟨⟨⟨⟨⟨⟨⟨⟨⟨⟨b1, b2⟩, b3⟩, b4⟩, b5⟩, b6⟩, b7⟩, b8⟩, b9⟩, b10⟩, b11⟩, b12⟩, b13⟩ := b
  have hfAd : He.fAd K (y.cls, some "__init__") = He.ma K (He.ga K y.cls) "__init__" := rfl
  unfold fnX at hv
  rw [hfAd] at hv
  unfold supFn at c9
  split at c9
  · rename_i oc od fd osl lk
    rw [lk] at hv
    simp only at hv
    obtain ⟨name, qual, params, body, scope, globals, closure, defaults, kwd, doc, pm, an, code, ct, blt⟩ := fd
    unfold SupE.val at hv
    simp only [Option.some.injEq, Prod.mk.injEq] at hv
    obtain ⟨rfl, rfl, rfl, rfl, rfl, rfl, hclo, rfl⟩ := hv
    split at c9
    · rename_i cda q cc h1 h2 h3
      dsimp only at h1 h2 h3
      subst h1 h2 h3
      simp only [List.map_cons, List.map_nil, List.cons.injEq, and_true] at hclo
      subst hclo
      simp only [Bool.and_eq_true] at c9
      obtain ⟨⟨d1, d2⟩, d3⟩ := c9
      split at d2
      · rename_i co cod vs cos hcode
        split at d2
        · rename_i file tf hvs
          have d2 := of_decide_eq_true d2
          subst d2
          split at d3
          · rename_i ce ced C' ces hcell
            have d3 := of_decide_eq_true d3
            subst d3
            split at b2
            · rename_i ar har
              obtain ⟨cd, hcd⟩ : ∃ cd, PySem.W.clsIn K (He.ga K y.cls) = some cd := by
                obtain ⟨nm, q, N, bs, bm, sn, sub, ab, col, dd, k0, k1, k2, k3, k5, hC, _⟩ := oexB_ok c2
                unfold PySem.W.clsIn
                rw [hC]
                exact ⟨_, rfl⟩
              refine ⟨He.ga K y.cls, ⟨He.ma K (He.ga K y.cls) "__init__", cc, cda, "__init__", y.qual, y.params, y.scope, .none, kwd, doc, pm, ct, an, oc, od, osl, vs, y.file, tf, co, cod, cos, ce, ced, ces, cd, y.body, y.n0, y.n1, ar, []⟩, xchOk_ok X G (PySem.W.mg_of X G c1) c16,
                ⟨⟨oexB_ok c2, c3, c4, c5, c6⟩, c7, c8, lk, d1, hcode, hvs, hf, hcell, hcd, c10, PySem.W.mg_none_of X G c11, c12, c13, ckv, c14, c15, ?_, har, of_decide_eq_true b2, b3, b4, b5, b6, b7, b8, fun x hx => b9 x hx, b10, b11, b12, b13, ht⟩, .all fun us hl => hb _ _ _ _ _ _ _ us hl⟩
              split at b1
              · rename_i s p0 p1 i p2 msg j p3 p4 p5 a p6 f p7 b' p8 p9 hbody
                simp only [Bool.and_eq_true, decide_eq_true_eq] at b1
                obtain ⟨⟨⟨⟨⟨rfl, rfl⟩, hl⟩, rfl⟩, rfl⟩, rfl⟩ := b1
                exact ⟨_, _, _, _, _, _, _, _, _, _, _, _, hl, hbody⟩
              · cases b1
            · cases b2
          · cases d3
        · cases d2
      · cases d2
    · cases c9
  · cases c9
/-! ### the Hook -/
/-- what the hook's part of the heap reaches, with the functions' cells -/
def asX (g : Addr → Option Obj) (n : Nat) : List Addr := (He.asD g n ++ [cStatics] ++ (He.asD g n).flatMap fun a => match g a with
  | some ⟨_, _, .func fd, _⟩ => fd.closure.map (·.2)
  | _ => []).eraseDups
structure SaysS (fa : List He.Fa) (fn : List He.DefD) (co : List (Str × D)) (xs : List (Str × List (Str × Bool))) (tf : List He.Defn) (ys : List SupE) (h : Heap) (K : PySem.W.Frag) : Prop where
  t : SaysT fa fn co xs tf h K
  fx : ys.map (fun y => fnX K (y.cls, some "__init__")) = ys.map SupE.val
  ok : ys.all (supOk K) = true
abbrev AlS : Type := (He.AlD × Bool) × (List FnX × Bool)
def obsSG (n : Nat) (fa : List He.Fa) (fn : List He.DefD) (co : List (Str × D)) (xs : List (Str × List (Str × Bool))) (tf : List He.Defn) (ys : List SupE) (g : Addr → Option Obj) : AlS :=
  ((obsL fa fn co xs (He.frT g (asX g n)), He.tabsB g tf (He.frT g (asX g n))), (ys.map (fun y => fnX (He.frT g (asX g n)) (y.cls, some "__init__")), ys.all (supOk (He.frT g (asX g n)))))
def valS (fn : List He.DefD) (ys : List SupE) : AlS := ((He.valD fn, true), (ys.map SupE.val, true))
theorem saysS_of {n : Nat} {fa : List He.Fa} {fn : List He.DefD} {co : List (Str × D)} {xs : List (Str × List (Str × Bool))} {tf : List He.Defn} {ys : List SupE} {h : Heap} (e : obsSG n fa fn co xs tf ys h.get? = valS fn ys) : SaysS fa fn co xs tf ys h (He.frT h.get? (asX h.get? n)) := by
  have e1 : obsL fa fn co xs (He.frT h.get? (asX h.get? n)) = He.valD fn := congrArg (fun z : AlS => z.1.1) e
  have e2 : He.tabsB h.get? tf (He.frT h.get? (asX h.get? n)) = true := congrArg (fun z : AlS => z.1.2) e
  have e3 : ys.map (fun y => fnX (He.frT h.get? (asX h.get? n)) (y.cls, some "__init__")) = ys.map SupE.val := congrArg (fun z : AlS => z.2.1) e
  have e4 : ys.all (supOk (He.frT h.get? (asX h.get? n))) = true := congrArg (fun z : AlS => z.2.2) e
  have key : ∀ p ∈ tf, PySem.W.codeHdIn (He.frT h.get? (asX h.get? n)) (He.cT (He.frT h.get? (asX h.get? n)) p).1 (He.cT (He.frT h.get? (asX h.get? n)) p).2 = true ∧ ∃ o, h.get? (He.cT (He.frT h.get? (asX h.get? n)) p).2 = some o ∧ He.emptyTab o = true := fun p hp => by
    have h3 := List.all_eq_true.mp e2 p hp
    simp only [Bool.and_eq_true] at h3
    refine ⟨h3.1, ?_⟩
    have h4 := h3.2
    split at h4
    · rename_i o q
      exact ⟨o, q, h4⟩
    · cases h4
  exact ⟨⟨e1, fun p hp => (key p hp).1, fun p hp => by
    obtain ⟨_, o, q, z⟩ := key p hp
    exact He.frT_none q z, fun p hp => by
    obtain ⟨_, o, q, z⟩ := key p hp
    rw [q, He.emptyTab_eq z]⟩, e3, e4⟩
def hookS (n : Nat) (fa : List He.Fa) (fn : List He.DefD) (co : List (Str × D)) (xs : List (Str × List (Str × Bool))) (tf : List He.Defn) (ys : List SupE) : PySem.W.Hook where
  α := AlS
  obs := fun s => obsSG n fa fn co xs tf ys s.heap.get?
  val := fun _ => valS fn ys
  says := fun _ h => ∃ K : PySem.W.Frag, K.In h ∧ SaysS fa fn co xs tf ys h K
  of := fun _ _ e => ⟨_, He.frT_in, saysS_of e⟩
  keeps := fun _ _ _ ⟨K, hK, c⟩ k => ⟨K, PySem.W.Frag.In.keeps hK k, ⟨⟨c.t.l, c.t.hd, c.t.out, fun p hp => k _ _ (c.t.empty p hp)⟩, c.fx, c.ok⟩⟩
theorem obsSG_eq {n : Nat} {fa : List He.Fa} {fn : List He.DefD} {co : List (Str × D)} {xs : List (Str × List (Str × Bool))} {tf : List He.Defn} {ys : List SupE} {g : Addr → Option Obj} {s : Shared} (h : ∀ a, g a = s.heap.get? a) : obsSG n fa fn co xs tf ys g = (hookS n fa fn co xs tf ys).obs s := by
  have e : g = s.heap.get? := funext h
  rw [e] <;> rfl
theorem SaysS.sup {fa : List He.Fa} {fn : List He.DefD} {co : List (Str × D)} {xs : List (Str × List (Str × Bool))} {tf : List He.Defn} {ys : List SupE} {h : Heap} {K : PySem.W.Frag} (c : SaysS fa fn co xs tf ys h K) (i : Nat) {y : SupE} (hy : ys[i]? = some y) : fnX K (y.cls, some "__init__") = y.val ∧ supOk K y = true := by
  refine ⟨?_, List.all_eq_true.mp c.ok y (List.mem_of_getElem? hy)⟩
  have e := congrArg (fun l : List FnX => l[i]?) c.fx
  simp only [List.getElem?_map, hy, Option.map_some, Option.some.injEq] at e
  exact e
end LR

set_option Elab.async false
set_option linter.all false
set_option maxRecDepth 100000
set_option maxHeartbeats 4000000
namespace LR
open PySem PySem.Spec PyProof.Rows L2
/-! ### the Hook with properties, and classes with own operators -/
structure PrE where
  cls : Str
  nm : Str
  qual : Str
  params : Arguments
  body : List Stmt
  scope : Scope
def PrE.val (y : PrE) : He.FnW := some (y.nm, y.qual, y.params, .stmts y.body, y.scope, mainGlobals, [], builtinsNs)
def pA (K : PySem.W.Frag) (C : Addr) (x : Str) : Addr := match PySem.W.findIn K (.ref C) x with
  | some (some (.ref p)) => p
  | _ => 0
def gA (K : PySem.W.Frag) (C : Addr) (x : Str) : Addr := match PySem.W.recIn K (pA K C x) "property" with
  | some (.ref g :: _) => g
  | _ => 0
def fnAt (K : PySem.W.Frag) (f : Addr) : He.FnW := match K.lookup f with
  | some ⟨_, _, .func fd, _⟩ => some (fd.name, fd.qualname, fd.params, fd.body, fd.scope, fd.globals, fd.closure, fd.builtins)
  | _ => none
def fnAtOk (K : PySem.W.Frag) (f : Addr) (qual : Str) : Bool := PySem.W.keepIn K (.ref f) && (match K.lookup f with
  | some ⟨_, _, .func fd, _⟩ => PySem.W.codeIn K fd.code qual && (He.dflB K fd.defaults [] && He.kwdB K fd.kwdefaults [])
  | _ => false)
theorem funD_at {K : PySem.W.Frag} {f : Addr} {y : PrE} (e : fnAt K f = y.val) (c : fnAtOk K f y.qual = true) : ∃ fd, FunD K y.nm y.qual y.params y.body y.scope [] [] f fd := by
  obtain ⟨kp, c2⟩ := He.ba c
  unfold fnAt at e
  cases q : K.lookup f with
  | none =>
    rw [q] at c2
    cases c2
  | some o =>
    obtain ⟨oc, od, dt, osl⟩ := o
    rw [q] at c2 e
    cases dt with
    | func fd =>
      obtain ⟨n1, n2, n3, n4, n5, n6, n7, n8, n9, n10, n11, n12, n13, n14, n15⟩ := fd
      have e2 : (some (n1, n2, n3, n4, n5, n6, n7, n15) : He.FnW) = some (y.nm, y.qual, y.params, .stmts y.body, y.scope, mainGlobals, [], builtinsNs) := e
      simp only [Option.some.injEq, Prod.mk.injEq] at e2
      obtain ⟨h1, h2, h3, h4, h5, h6, h7, h8⟩ := e2
      subst h1 h2 h3 h4 h5 h6 h7 h8
      have c3 : (PySem.W.codeIn K n13 y.qual && (He.dflB K n8 [] && He.kwdB K n9 [])) = true := c2
      obtain ⟨k1, k2⟩ := He.ba c3
      obtain ⟨k3, k4⟩ := He.ba k2
      exact ⟨_, ⟨oc, od, n8, n9, n10, n11, n12, n13, n14, osl, rfl, q, k1, He.dflB_ok k3, He.kwdB_ok k4⟩, kp⟩
    | _ => cases c2
def fnPr (K : PySem.W.Frag) (y : PrE) : He.FnW := fnAt K (gA K (He.ga K y.cls) y.nm)
def prOk (K : PySem.W.Frag) (y : PrE) : Bool := He.eqO (PySem.W.findIn K (.ref (He.ga K y.cls)) y.nm) (some (some (.ref (pA K (He.ga K y.cls) y.nm)))) &&
  (He.eqO (PySem.W.specialIn K (.ref (pA K (He.ga K y.cls) y.nm)) "__get__") (some (some (.builtin "property.__get__"))) && (decide (PySem.W.takesIn K (.ref (pA K (He.ga K y.cls) y.nm)) = some true) && ((match PySem.W.recIn K (pA K (He.ga K y.cls) y.nm) "property" with
    | some (.ref _ :: _) => true
    | _ => false) && fnAtOk K (gA K (He.ga K y.cls) y.nm) y.qual)))
theorem prOk_ok {K : PySem.W.Frag} {y : PrE} (e : fnPr K y = y.val) (c : prOk K y = true) : PropOf K (He.ga K y.cls) y.nm (pA K (He.ga K y.cls) y.nm) (gA K (He.ga K y.cls) y.nm) ∧ ∃ fd, FunD K y.nm y.qual y.params y.body y.scope [] [] (gA K (He.ga K y.cls) y.nm) fd := by
  obtain ⟨c1, c⟩ := He.ba c
  obtain ⟨c2, c⟩ := He.ba c
  obtain ⟨c3, c⟩ := He.ba c
  obtain ⟨c4, c5⟩ := He.ba c
  refine ⟨⟨He.eqO_ok c1, He.eqO_ok c2, of_decide_eq_true c3, ?_⟩, funD_at e c5⟩
  unfold gA
  split at c4
  · rename_i g r h
    rw [h]
    exact ⟨_, rfl⟩
  · cases c4
/-- a class with own operators -/
def opB (K : PySem.W.Frag) (c : Str) : Bool := (He.Fa.cls c).ok K && (He.eqO (PySem.W.findIn K (.ref (He.ga K c)) "__ne__") (some (some (.builtin "object.__ne__"))) && (decide (PySem.W.subIn K (.ref (He.ga K c)) (.type "object") = some true) &&
  (PySem.W.notFirst K (He.ga K c) (.type "tuple") && (PySem.W.notFirst K (He.ga K c) (.type "int") && (decide (PySem.W.kitOne K (.ref (He.ga K c)) (.ref (He.ga K c)) = some true) && (decide (PySem.W.kitOne K (.type "tuple") (.ref (He.ga K c)) = some false) &&
  (decide (PySem.W.kitOne K (.type "int") (.ref (He.ga K c)) = some false) && (He.eqO (PySem.W.findIn K (.ref (He.ga K c)) "__class__") (some (some (.builtin "object.__class__"))) && (He.eqO (PySem.W.specialIn K (.builtin "object.__class__") "__get__") (some (some (.builtin "getset_descriptor.__get__"))) &&
  (decide (PySem.W.takesIn K (.builtin "object.__class__") = some true) && (match PySem.W.findIn K (.ref (He.ga K c)) "__getitem__" with
    | some (some (.ref g)) => PySem.W.fnIn K g
    | _ => true)))))))))))
theorem opB_ok {K : PySem.W.Frag} {c : Str} (h : opB K c = true) : OpF K (He.ga K c) := by
  obtain ⟨c1, h⟩ := He.ba h
  obtain ⟨c2, h⟩ := He.ba h
  obtain ⟨c3, h⟩ := He.ba h
  obtain ⟨c4, h⟩ := He.ba h
  obtain ⟨c5, h⟩ := He.ba h
  obtain ⟨c6, h⟩ := He.ba h
  obtain ⟨c7, h⟩ := He.ba h
  obtain ⟨c8, h⟩ := He.ba h
  obtain ⟨c9, h⟩ := He.ba h
  obtain ⟨c10, h⟩ := He.ba h
  obtain ⟨c11, h⟩ := He.ba h
  refine ⟨He.eqO_ok c2, of_decide_eq_true c3, c4, c5, of_decide_eq_true c6, of_decide_eq_true c7, of_decide_eq_true c8, He.cls_ok c1, He.eqO_ok c9, He.eqO_ok c10, of_decide_eq_true c11, fun g hg => ?_⟩
  rw [hg] at h
  exact h
structure SaysO (fa : List He.Fa) (fn : List He.DefD) (co : List (Str × D)) (xs : List (Str × List (Str × Bool))) (tf : List He.Defn) (ps : List PrE) (os : List Str) (h : Heap) (K : PySem.W.Frag) : Prop where
  t : SaysT fa fn co xs tf h K
  pf : ps.map (fnPr K) = ps.map PrE.val
  ok : (ps.all (prOk K) && os.all (opB K)) = true
abbrev AlO : Type := (He.AlD × Bool) × (List He.FnW × Bool)
def obsOG (n : Nat) (fa : List He.Fa) (fn : List He.DefD) (co : List (Str × D)) (xs : List (Str × List (Str × Bool))) (tf : List He.Defn) (ps : List PrE) (os : List Str) (g : Addr → Option Obj) : AlO :=
  ((obsL fa fn co xs (He.frT g (He.asD g n)), He.tabsB g tf (He.frT g (He.asD g n))), (ps.map (fnPr (He.frT g (He.asD g n))), ps.all (prOk (He.frT g (He.asD g n))) && os.all (opB (He.frT g (He.asD g n)))))
def valO (fn : List He.DefD) (ps : List PrE) : AlO := ((He.valD fn, true), (ps.map PrE.val, true))
theorem saysO_of {n : Nat} {fa : List He.Fa} {fn : List He.DefD} {co : List (Str × D)} {xs : List (Str × List (Str × Bool))} {tf : List He.Defn} {ps : List PrE} {os : List Str} {h : Heap} (e : obsOG n fa fn co xs tf ps os h.get? = valO fn ps) : SaysO fa fn co xs tf ps os h (He.frT h.get? (He.asD h.get? n)) := by
  have e1 : obsL fa fn co xs (He.frT h.get? (He.asD h.get? n)) = He.valD fn := congrArg (fun z : AlO => z.1.1) e
  have e2 : He.tabsB h.get? tf (He.frT h.get? (He.asD h.get? n)) = true := congrArg (fun z : AlO => z.1.2) e
  have e3 : ps.map (fnPr (He.frT h.get? (He.asD h.get? n))) = ps.map PrE.val := congrArg (fun z : AlO => z.2.1) e
  have e4 : (ps.all (prOk (He.frT h.get? (He.asD h.get? n))) && os.all (opB (He.frT h.get? (He.asD h.get? n)))) = true := congrArg (fun z : AlO => z.2.2) e
  have key : ∀ p ∈ tf, PySem.W.codeHdIn (He.frT h.get? (He.asD h.get? n)) (He.cT (He.frT h.get? (He.asD h.get? n)) p).1 (He.cT (He.frT h.get? (He.asD h.get? n)) p).2 = true ∧ ∃ o, h.get? (He.cT (He.frT h.get? (He.asD h.get? n)) p).2 = some o ∧ He.emptyTab o = true := fun p hp => by
    have h3 := List.all_eq_true.mp e2 p hp
    simp only [Bool.and_eq_true] at h3
    refine ⟨h3.1, ?_⟩
    have h4 := h3.2
    split at h4
    · rename_i o q
      exact ⟨o, q, h4⟩
    · cases h4
  exact ⟨⟨e1, fun p hp => (key p hp).1, fun p hp => by
    obtain ⟨_, o, q, z⟩ := key p hp
    exact He.frT_none q z, fun p hp => by
    obtain ⟨_, o, q, z⟩ := key p hp
    rw [q, He.emptyTab_eq z]⟩, e3, e4⟩
def hookO (n : Nat) (fa : List He.Fa) (fn : List He.DefD) (co : List (Str × D)) (xs : List (Str × List (Str × Bool))) (tf : List He.Defn) (ps : List PrE) (os : List Str) : PySem.W.Hook where
  α := AlO
  obs := fun s => obsOG n fa fn co xs tf ps os s.heap.get?
  val := fun _ => valO fn ps
  says := fun _ h => ∃ K : PySem.W.Frag, K.In h ∧ SaysO fa fn co xs tf ps os h K
  of := fun _ _ e => ⟨_, He.frT_in, saysO_of e⟩
  keeps := fun _ _ _ ⟨K, hK, c⟩ k => ⟨K, PySem.W.Frag.In.keeps hK k, ⟨⟨c.t.l, c.t.hd, c.t.out, fun p hp => k _ _ (c.t.empty p hp)⟩, c.pf, c.ok⟩⟩
theorem obsOG_eq {n : Nat} {fa : List He.Fa} {fn : List He.DefD} {co : List (Str × D)} {xs : List (Str × List (Str × Bool))} {tf : List He.Defn} {ps : List PrE} {os : List Str} {g : Addr → Option Obj} {s : Shared} (h : ∀ a, g a = s.heap.get? a) : obsOG n fa fn co xs tf ps os g = (hookO n fa fn co xs tf ps os).obs s := by
  have e : g = s.heap.get? := funext h
  rw [e] <;> rfl
section
variable {fa : List He.Fa} {fn : List He.DefD} {co : List (Str × D)} {xs : List (Str × List (Str × Bool))} {tf : List He.Defn} {ps : List PrE} {os : List Str} {h : Heap} {K : PySem.W.Frag}
theorem SaysO.pr (c : SaysO fa fn co xs tf ps os h K) (i : Nat) {y : PrE} (hy : ps[i]? = some y) : PropOf K (He.ga K y.cls) y.nm (pA K (He.ga K y.cls) y.nm) (gA K (He.ga K y.cls) y.nm) ∧ ∃ fd, FunD K y.nm y.qual y.params y.body y.scope [] [] (gA K (He.ga K y.cls) y.nm) fd := by
  refine prOk_ok ?_ (List.all_eq_true.mp (He.ba c.ok).1 y (List.mem_of_getElem? hy))
  have e := congrArg (fun l : List He.FnW => l[i]?) c.pf
  simp only [List.getElem?_map, hy, Option.map_some, Option.some.injEq] at e
  exact e
theorem SaysO.op (c : SaysO fa fn co xs tf ps os h K) {x : Str} (hx : x ∈ os) : OpF K (He.ga K x) := opB_ok (List.all_eq_true.mp (He.ba c.ok).2 x hx)
end
end LR

set_option Elab.async false
set_option linter.all false
set_option maxRecDepth 100000
set_option maxHeartbeats 4000000
namespace LR
open PySem PySem.Spec PyProof.Rows L2
/-! ### the trees of the defs that many laws share -/
def a_is_between : S := .seq (.ret (.and (.isi "int" (.v 0)) (.and (.no (.isi "bool" (.v 0))) (.ch .le .le (.v 1) (.v 0) (.v 2))))) .nop
def n_is_between : List PySem.Str := ["value", "low", "high"]
def f_is_between : Fn := ⟨3, 3, a_is_between⟩
def a_is_start : S := .seq (.ret (.and (.isi "str" (.v 0)) (.o2 .inn (.v 0) (.g "STARTS")))) .nop
def n_is_start : List PySem.Str := ["value"]
def f_is_start : Fn := ⟨1, 1, a_is_start⟩
def a_is_lacing : S := .seq (.ite (.or (.no (.isi "tuple" (.v 0))) (.or (.o2 .ne (.bi .len (.cons (.v 0) .nil)) (.c (.int 2))) (.or (.no (.call "is_start" (.cons (.idx (.v 0) (.c (.int 0))) .nil))) (.no (.isi "tuple" (.idx (.v 0) (.c (.int 1)))))))) (.seq (.ret (.c (.bl false))) .nop) .nop) (.seq (.asg (.nm 1) (.bi .len (.cons (.idx (.v 0) (.c (.int 1))) .nil))) (.seq (.ite (.or (.no (.ch .le .le (.c (.int 2)) (.v 1) (.o2 .mul (.c (.int 2)) (.g "MOST_ROWS")))) (.or (.o2 .eq (.o2 .mod (.v 1) (.c (.int 2))) (.c (.int 1))) (.no (.bi .all (.cons (.nl false (.comp (.call "is_between" (.cons (.v 2) (.cons (.c (.int 0)) (.cons (.o2 .sub (.v 1) (.c (.int 1))) .nil)))) false [2] (.seq (.idx (.v 0) (.c (.int 1)))) .nop)) .nil))))) (.seq (.ret (.c (.bl false))) .nop) .nop) (.seq (.ret (.o2 .eq (.lset (.idx (.v 0) (.c (.int 1)))) (.v 1))) .nop)))
def n_is_lacing : List PySem.Str := ["value", "many", "hole"]
def f_is_lacing : Fn := ⟨3, 1, a_is_lacing⟩
def a_need_lacing : S := .seq (.ite (.no (.call "is_lacing" (.cons (.v 0) .nil))) (.seq (.never) .nop) .nop) .nop
def n_need_lacing : List PySem.Str := ["lacing"]
def f_need_lacing : Fn := ⟨1, 1, a_need_lacing⟩
def a_is_across : S := .seq (.ret (.o2 .ne (.o2 .mod (.v 0) (.c (.int 2))) (.o2 .mod (.v 1) (.c (.int 2))))) .nop
def n_is_across : List PySem.Str := ["one", "other"]
def f_is_across : Fn := ⟨2, 2, a_is_across⟩
def a_stretches_of : S := .seq (.ret (.nl false (.zp (.v 0) (.sl (.v 0) (.c (.int 1)) .nop)))) .nop
def n_stretches_of : List PySem.Str := ["holes"]
def f_stretches_of : Fn := ⟨1, 1, a_stretches_of⟩
def a_loose_of : S := .seq (.asg (.nm 1) (.nl false (.disp (.nil)))) (.seq (.loop true [2, 3] (.seq (.call "stretches_of" (.cons (.v 0) .nil))) (.seq (.ite (.call "is_across" (.cons (.v 2) (.cons (.v 3) .nil))) (.seq (.asg (.nm 1) (.o2 .add (.v 1) (.nl false (.disp (.cons (.v 2) (.cons (.v 3) .nil)))))) .nop) .nop) .nop)) (.seq (.ret (.nl false (.srt (.nl false (.comp (.v 4) false [4] (.seq (.v 0)) (.o2 .nin (.v 4) (.v 1))))))) .nop))
def n_loose_of : List PySem.Str := ["holes", "tied", "one", "other", "hole"]
def f_loose_of : Fn := ⟨5, 1, a_loose_of⟩
def a_holding : S := .seq (.ret (.o2 .eq (.call "loose_of" (.cons (.v 0) .nil)) (.nl false (.disp (.nil))))) .nop
def n_holding : List PySem.Str := ["holes"]
def f_holding : Fn := ⟨1, 1, a_holding⟩
def a_kinds_of : S := .seq (.asg (.nm 1) (.call "stretches_of" (.cons (.v 0) .nil))) (.seq (.asg (.nm 2) (.bi .len (.cons (.nl false (.comp (.c (.int 1)) true [4, 5] (.seq (.v 1)) (.call "is_across" (.cons (.v 4) (.cons (.v 5) .nil))))) .nil))) (.seq (.asg (.nm 3) (.bi .len (.cons (.nl false (.comp (.c (.int 1)) true [4, 5] (.seq (.v 1)) (.o2 .eq (.o2 .fdiv (.v 4) (.c (.int 2))) (.o2 .fdiv (.v 5) (.c (.int 2)))))) .nil))) (.seq (.ret (.tup (.cons (.v 3) (.cons (.o2 .sub (.v 2) (.v 3)) (.cons (.o2 .sub (.bi .len (.cons (.v 1) .nil)) (.v 2)) .nil))))) .nop)))
def n_kinds_of : List PySem.Str := ["holes", "pairs", "across", "straight", "one", "other"]
def f_kinds_of : Fn := ⟨6, 1, a_kinds_of⟩
def a_kinds : S := .seq (.exp (.call "need_lacing" (.cons (.v 0) .nil))) (.seq (.ret (.call "kinds_of" (.cons (.idx (.v 0) (.c (.int 1))) .nil))) .nop)
def n_kinds : List PySem.Str := ["lacing"]
def f_kinds : Fn := ⟨1, 1, a_kinds⟩
def a_loose_holes : S := .seq (.exp (.call "need_lacing" (.cons (.v 0) .nil))) (.seq (.ret (.call "loose_of" (.cons (.idx (.v 0) (.c (.int 1))) .nil))) .nop)
def n_loose_holes : List PySem.Str := ["lacing"]
def f_loose_holes : Fn := ⟨1, 1, a_loose_holes⟩
def a_holds : S := .seq (.exp (.call "need_lacing" (.cons (.v 0) .nil))) (.seq (.ret (.call "holding" (.cons (.idx (.v 0) (.c (.int 1))) .nil))) .nop)
def n_holds : List PySem.Str := ["lacing"]
def f_holds : Fn := ⟨1, 1, a_holds⟩
def a_law_source : S := .seq (.asg (.nm 2) (.c (.int 0))) (.seq (.ite (.o2 .lt (.v 1) (.bi .len (.cons (.v 0) .nil))) (.seq (.asg (.nm 2) (.bi .abs (.cons (.idx (.v 0) (.v 1)) .nil))) .nop) .nop) (.seq (.ite (.o2 .lt (.v 2) (.o2 .pow (.c (.int 10)) (.c (.int 18)))) (.seq (.ret (.nl true (.disp (.cons (.c (.int 0)) (.cons (.o2 .add (.c (.int 1)) (.o2 .mod (.bi .int (.cons (.o2 .add (.o2 .mul (.v 2) (.c (.int 7919))) (.o2 .mul (.c (.int 104729)) (.v 1))) .nil)) (.c (.int 2147483646)))) .nil))))) .nop) .nop) (.seq (.ret (.nl true (.disp (.cons (.v 2) (.cons (.o2 .add (.c (.int 1)) (.o2 .mod (.bi .int (.cons (.o2 .add (.v 2) (.v 1)) .nil)) (.c (.int 2147483646)))) .nil))))) .nop)))
def n_law_source : List PySem.Str := ["_law_script", "_law_index", "_law_cell"]
def f_law_source : Fn := ⟨3, 2, a_law_source⟩
def a_law_draw : S := .seq (.ite (.o2 .gt (.idx (.v 0) (.c (.int 0))) (.c (.int 0))) (.seq (.asg (.nm 2) (.o2 .mod (.bi .int (.cons (.idx (.v 0) (.c (.int 0))) .nil)) (.v 1))) (.seq (.asg (.ix (.v 0) (.c (.int 0))) (.o2 .fdiv (.idx (.v 0) (.c (.int 0))) (.v 1))) (.seq (.ret (.v 2)) .nop))) .nop) (.seq (.asg (.ix (.v 0) (.c (.int 1))) (.o2 .mod (.bi .int (.cons (.o2 .mul (.idx (.v 0) (.c (.int 1))) (.c (.int 48271))) .nil)) (.c (.int 2147483647)))) (.seq (.ret (.o2 .mod (.bi .int (.cons (.o2 .fdiv (.o2 .mod (.bi .int (.cons (.o2 .mul (.idx (.v 0) (.c (.int 1))) (.idx (.v 0) (.c (.int 1)))) .nil)) (.c (.int 2147483629))) (.c (.int 64))) .nil)) (.v 1))) .nop))
def n_law_draw : List PySem.Str := ["_law_source_here", "_law_size", "_law_drawn"]
def f_law_draw : Fn := ⟨3, 2, a_law_draw⟩
def a_law_choice : S := .seq (.ret (.idx (.v 1) (.call "_law_draw" (.cons (.v 0) (.cons (.bi .len (.cons (.v 1) .nil)) .nil))))) .nop
def n_law_choice : List PySem.Str := ["_law_source_here", "_law_items"]
def f_law_choice : Fn := ⟨2, 2, a_law_choice⟩
def a_law_order : S := .seq (.asg (.nm 2) (.nl true (.rng (.cons (.v 1) .nil)))) (.seq (.loop false [3] (.rng (.cons (.o2 .sub (.v 1) (.c (.int 1))) (.cons (.c (.int 0)) (.cons (.o1 .neg (.c (.int 1))) .nil)))) (.seq (.asg (.nm 4) (.call "_law_draw" (.cons (.v 0) (.cons (.o2 .add (.v 3) (.c (.int 1))) .nil)))) (.seq (.tpl [.ix (.v 2) (.v 3), .ix (.v 2) (.v 4)] (.tup (.cons (.idx (.v 2) (.v 4)) (.cons (.idx (.v 2) (.v 3)) .nil)))) .nop))) (.seq (.ret (.bi .tuple (.cons (.v 2) .nil))) .nop))
def n_law_order : List PySem.Str := ["_law_source_here", "_law_many", "_law_holes", "_law_place", "_law_other"]
def f_law_order : Fn := ⟨5, 2, a_law_order⟩
def a_law_lacing : S := .seq (.ret (.tup (.cons (.call "_law_choice" (.cons (.v 0) (.cons (.nl false (.disp (.cons (.c (.str "in")) (.cons (.c (.str "out")) .nil)))) .nil))) (.cons (.call "_law_order" (.cons (.v 0) (.cons (.o2 .mul (.c (.int 2)) (.v 1)) .nil))) .nil)))) .nop
def n_law_lacing : List PySem.Str := ["_law_source_here", "_law_size"]
def f_law_lacing : Fn := ⟨2, 2, a_law_lacing⟩
def a_law_firm : S := .seq (.asg (.nm 2) (.nl false (.disp (.cons (.call "_law_order" (.cons (.v 0) (.cons (.v 1) .nil))) (.cons (.call "_law_order" (.cons (.v 0) (.cons (.v 1) .nil))) .nil))))) (.seq (.par [3, 4, 5] (.cons (.call "_law_draw" (.cons (.v 0) (.cons (.c (.int 2)) .nil))) (.cons (.c (.int 2)) (.cons (.nl true (.disp (.cons (.v 1) (.cons (.v 1) .nil)))) .nil)))) (.seq (.asg (.nm 6) (.nl true (.disp (.cons (.o2 .add (.o2 .mul (.c (.int 2)) (.idx (.idx (.v 2) (.v 3)) (.c (.int 0)))) (.v 3)) .nil)))) (.seq (.asg (.ix (.v 5) (.v 3)) (.o2 .sub (.v 1) (.c (.int 1)))) (.seq (.whl (.o2 .lt (.bi .len (.cons (.v 6) .nil)) (.o2 .mul (.c (.int 2)) (.v 1))) (.seq (.asg (.nm 7) (.nl true (.disp (.nil)))) (.seq (.loop false [8] (.rng (.cons (.c (.int 2)) .nil)) (.seq (.asg (.nm 9) (.tup (.cons (.o2 .sub (.idx (.v 5) (.c (.int 0))) (.o2 .sub (.c (.int 1)) (.v 8))) (.cons (.o2 .sub (.idx (.v 5) (.c (.int 1))) (.v 8)) .nil)))) (.seq (.ite (.and (.o2 .ge (.bi .min (.cons (.v 9) .nil)) (.c (.int 0))) (.or (.o2 .ne (.v 8) (.v 3)) (.o2 .eq (.v 4) (.c (.int 1))))) (.seq (.ite (.o2 .gt (.call "_law_patterns" (.cons (.idx (.v 9) (.c (.int 0))) (.cons (.idx (.v 9) (.c (.int 1))) (.cons (.v 8) (.cons (.ite (.o2 .ne (.v 8) (.v 3)) (.c (.int 1)) (.c (.int 2))) .nil))))) (.c (.int 0))) (.seq (.exp (.app (.v 7) (.v 8))) .nop) .nop) .nop) .nop) .nop))) (.seq (.asg (.nm 8) (.call "_law_choice" (.cons (.v 0) (.cons (.v 7) .nil)))) (.seq (.asg (.nm 4) (.ite (.o2 .ne (.v 8) (.v 3)) (.c (.int 1)) (.c (.int 2)))) (.seq (.asg (.nm 3) (.v 8)) (.seq (.asg (.ix (.v 5) (.v 3)) (.o2 .sub (.idx (.v 5) (.v 3)) (.c (.int 1)))) (.seq (.exp (.app (.v 6) (.o2 .add (.o2 .mul (.c (.int 2)) (.idx (.idx (.v 2) (.v 3)) (.o2 .sub (.o2 .sub (.v 1) (.c (.int 1))) (.idx (.v 5) (.v 3))))) (.v 3)))) .nop)))))))) (.seq (.ret (.tup (.cons (.call "_law_choice" (.cons (.v 0) (.cons (.nl false (.disp (.cons (.c (.str "in")) (.cons (.c (.str "out")) .nil)))) .nil))) (.cons (.bi .tuple (.cons (.v 6) .nil)) .nil)))) .nop)))))
def n_law_firm : List PySem.Str := ["_law_source_here", "_law_size", "_law_lots", "_law_side", "_law_run", "_law_left", "_law_holes", "_law_some", "_law_new", "_law_rest"]
def f_law_firm : Fn := ⟨10, 2, a_law_firm⟩
def a_law_patterns : S := .seq (.ite (.o2 .eq (.o2 .add (.v 0) (.v 1)) (.c (.int 0))) (.seq (.ret (.ite (.o2 .eq (.v 3) (.c (.int 1))) (.c (.int 1)) (.c (.int 0)))) .nop) .nop) (.seq (.asg (.nm 4) (.c (.int 0))) (.seq (.loop false [5] (.rng (.cons (.c (.int 2)) .nil)) (.seq (.ite (.and (.o2 .gt (.idx (.nl false (.disp (.cons (.v 0) (.cons (.v 1) .nil)))) (.v 5)) (.c (.int 0))) (.or (.o2 .ne (.v 5) (.v 2)) (.o2 .eq (.v 3) (.c (.int 1))))) (.seq (.asg (.nm 4) (.o2 .add (.v 4) (.call "_law_patterns" (.cons (.o2 .sub (.v 0) (.o2 .sub (.c (.int 1)) (.v 5))) (.cons (.o2 .sub (.v 1) (.v 5)) (.cons (.v 5) (.cons (.ite (.o2 .ne (.v 5) (.v 2)) (.c (.int 1)) (.c (.int 2))) .nil))))))) .nop) .nop) .nop)) (.seq (.ret (.v 4)) .nop)))
def n_law_patterns : List PySem.Str := ["_law_left", "_law_right", "_law_side", "_law_run", "_law_found", "_law_new"]
def f_law_patterns : Fn := ⟨6, 4, a_law_patterns⟩
def a_law_all : S := .seq (.asg (.nm 1) (.nl false (.disp (.cons (.tup (.nil)) .nil)))) (.seq (.loop false [2] (.rng (.cons (.o2 .mul (.c (.int 2)) (.v 0)) .nil)) (.seq (.asg (.nm 3) (.nl false (.disp (.nil)))) (.seq (.loop false [4] (.seq (.v 1)) (.seq (.asg (.nm 3) (.o2 .add (.v 3) (.nl false (.comp (.o2 .add (.v 4) (.tup (.cons (.v 5) .nil))) false [5] (.rng (.cons (.o2 .mul (.c (.int 2)) (.v 0)) .nil)) (.o2 .nin (.v 5) (.v 4)))))) .nop)) (.seq (.asg (.nm 1) (.v 3)) .nop)))) (.seq (.ret (.v 1)) .nop))
def n_law_all : List PySem.Str := ["_law_size", "_law_found", "_law_place", "_law_longer", "_law_holes", "_law_hole"]
def f_law_all : Fn := ⟨6, 1, a_law_all⟩
def a_law_runs : S := .seq (.asg (.nm 1) (.nl false (.comp (.o2 .mod (.bi .int (.cons (.v 3) .nil)) (.c (.int 2))) false [3] (.seq (.v 0)) .nop))) (.seq (.ite (.or (.o2 .eq (.idx (.v 1) (.c (.int 0))) (.idx (.v 1) (.c (.int 1)))) (.o2 .eq (.idx (.v 1) (.o1 .neg (.c (.int 1)))) (.idx (.v 1) (.o1 .neg (.c (.int 2)))))) (.seq (.ret (.c (.bl false))) .nop) .nop) (.seq (.loop false [2] (.rng (.cons (.o2 .sub (.bi .len (.cons (.v 1) .nil)) (.c (.int 2))) .nil)) (.seq (.ite (.ch .eq .eq (.idx (.v 1) (.v 2)) (.idx (.v 1) (.o2 .add (.v 2) (.c (.int 1)))) (.idx (.v 1) (.o2 .add (.v 2) (.c (.int 2))))) (.seq (.ret (.c (.bl false))) .nop) .nop) .nop)) (.seq (.ret (.c (.bl true))) .nop)))
def n_law_runs : List PySem.Str := ["_law_holes", "_law_sides", "_law_place", "_law_hole"]
def f_law_runs : Fn := ⟨4, 1, a_law_runs⟩
/-! ### reading the evaluator -/
theorem callN_eq {Γ : Gam} {n : Nat} {f : Str} {F : Fn} {ds : List D} {m : Mem} (h : Γ.fn f = some F) (hl : ds.length = F.k) : callN Γ (n + 1) f ds m = fin (evS Γ.con (callN Γ n) F.body (ds.map some ++ List.replicate (F.n - F.k) none) m) := by
  conv => lhs; unfold callN
  rw [h]
  exact if_pos hl
theorem sh_int (a : Int) : SeqAt.shaped (.int a) = true := rfl
theorem sh_bl (a : Bool) : SeqAt.shaped (.bool a) = true := rfl
@[simp] theorem eqD_int (a b : Int) : eqD (.int a) (.int b) = some (decide (a = b)) := by
  simp [eqD, D.py, PyData.eqv, sh_int]
  rfl
@[simp] theorem eqD_bl (a b : Bool) : eqD (.bl a) (.bl b) = some (a == b) := by
  simp [eqD, D.py, PyData.eqv, sh_bl]
@[simp] theorem der_int (m : Mem) (i : Int) : (D.int i).deref m = .int i := rfl
@[simp] theorem der_bl (m : Mem) (i : Bool) : (D.bl i).deref m = .bl i := rfl
@[simp] theorem der_str (m : Mem) (i : Str) : (D.str i).deref m = .str i := rfl
@[simp] theorem der_tup (m : Mem) (i : List D) : (D.tup i).deref m = .tup i := rfl
@[simp] theorem der_lst (m : Mem) (i : List D) : (D.lst i).deref m = .lst i := rfl
section
variable {G : Str → Option D} {cl : Str → List D → Mem → R D} {s : Sl} {m : Mem} {a b c e o t : E} {as : Es} {x y : D} {k k' : O2}
@[simp] theorem x_bind {α β : Type} {a : α} {f : α → Mem → R β} : (R.ok a m).bind f = f a m := rfl
@[simp] theorem x_opt {α : Type} {a : α} : opt m (some a) = .ok a m := rfl
@[simp] theorem x_optn {α : Type} : opt (α := α) m none = .err := rfl
@[simp] theorem x_tst {b : Bool} : tst (.ok (.bl b) m) = .ok b m := rfl
@[simp] theorem x_rt {d : D} : fin (.ok (.rt d) m) = .ok d m := rfl
@[simp] theorem x_nx : fin (.ok (.nx s) m) = .ok .non m := rfl
@[simp] theorem x_c {d : D} : ev G cl (.c d) s m = .ok d m := by rw [ev]
@[simp] theorem x_v {i : Nat} : ev G cl (.v i) s m = (match s[i]? with
  | some (some d) => .ok d m
  | _ => .err) := by rw [ev]; try rfl
@[simp] theorem x_g {x : Str} : ev G cl (.g x) s m = opt m (G x) := by rw [ev]
@[simp] theorem x_o1 {k : O1} : ev G cl (.o1 k a) s m = (ev G cl a s m).bind fun x m => opt m (sem1 k x) := by rw [ev]
@[simp] theorem x_o2 : ev G cl (.o2 k a b) s m = (ev G cl a s m).bind fun x m => (ev G cl b s m).bind fun y m => opt m (sem2 k x y m) := by rw [ev]
@[simp] theorem x_ch : ev G cl (.ch k k' a b c) s m = (ev G cl a s m).bind fun x m => (ev G cl b s m).bind fun y m => match sem2 k x y m with
    | some (.bl true) => (ev G cl c s m).bind fun z m => opt m (sem2 k' y z m)
    | some (.bl false) => .ok (.bl false) m
    | _ => .err := by rw [ev]; try rfl
@[simp] theorem x_idx : ev G cl (.idx a b) s m = (ev G cl a s m).bind fun x m => (ev G cl b s m).bind fun y m => opt m (semIx x y m) := by rw [ev]
@[simp] theorem x_no : ev G cl (.no a) s m = (ev G cl a s m).bind fun x m => match x with
    | .bl b => .ok (.bl (!b)) m
    | _ => .err := by rw [ev]; try rfl
@[simp] theorem x_and : ev G cl (.and a b) s m = (ev G cl a s m).bind fun x m => match x with
    | .bl true => ev G cl b s m
    | .bl false => .ok (.bl false) m
    | _ => .err := by rw [ev]; try rfl
@[simp] theorem x_or : ev G cl (.or a b) s m = (ev G cl a s m).bind fun x m => match x with
    | .bl true => .ok (.bl true) m
    | .bl false => ev G cl b s m
    | _ => .err := by rw [ev]; try rfl
@[simp] theorem x_ite : ev G cl (.ite t a b) s m = (ev G cl t s m).bind fun x m => match x with
    | .bl true => ev G cl a s m
    | .bl false => ev G cl b s m
    | _ => .err := by rw [ev]; try rfl
@[simp] theorem x_tup : ev G cl (.tup as) s m = (evs G cl as s m).bind fun ds m => .ok (.tup ds) m := by rw [ev]
@[simp] theorem x_nlf {n : N} : ev G cl (.nl false n) s m = (evN G cl n s m).bind fun ds m => .ok (.lst ds) m := by rw [ev]; try rfl
@[simp] theorem x_nlt {n : N} : ev G cl (.nl true n) s m = (evN G cl n s m).bind fun ds m => .ok (.ref m.length) (m ++ [.lst ds]) := by rw [ev]; try rfl
@[simp] theorem x_sl {l h : E} : ev G cl (.sl a l h) s m = (ev G cl a s m).bind fun x m => (pO l.isNop m (ev G cl l s m)).bind fun l m => (pO h.isNop m (ev G cl h s m)).bind fun h m => opt m (semSl x l h) := by rw [ev]
@[simp] theorem x_call {f : Str} : ev G cl (.call f as) s m = (evs G cl as s m).bind fun ds m => cl f ds m := by rw [ev]
@[simp] theorem x_bi {b : Bi} : ev G cl (.bi b as) s m = (evs G cl as s m).bind fun ds m => opt m (semBi b ds m) := by rw [ev]
@[simp] theorem x_isi {T : String} : ev G cl (.isi T e) s m = (ev G cl e s m).bind fun x m => opt m (semIsi T x m) := by rw [ev]
@[simp] theorem x_lset : ev G cl (.lset e) s m = (ev G cl e s m).bind fun x m => opt m (semLset x m) := by rw [ev]
@[simp] theorem x_app : ev G cl (.app o e) s m = (ev G cl o s m).bind fun x m => if isL m x then (ev G cl e s m).bind fun y m => appD x y m else .err := by rw [ev]
@[simp] theorem x_nil : evs G cl .nil s m = .ok [] m := by rw [evs]
@[simp] theorem x_cons : evs G cl (.cons e as) s m = (ev G cl e s m).bind fun d m => (evs G cl as s m).bind fun ds m => .ok (d :: ds) m := by rw [evs]
@[simp] theorem x_disp : evN G cl (.disp as) s m = evs G cl as s m := by rw [evN]
@[simp] theorem x_cp : evN G cl (.cp e) s m = (ev G cl e s m).bind fun x m => opt m (semN1 0 x m) := by rw [evN]
@[simp] theorem x_rng : evN G cl (.rng as) s m = (evs G cl as s m).bind fun ds m => opt m (semR ds) := by rw [evN]
@[simp] theorem x_zp : evN G cl (.zp a b) s m = (ev G cl a s m).bind fun x m => (ev G cl b s m).bind fun y m => opt m (semZT [x, y]) := by rw [evN]
@[simp] theorem x_srt : evN G cl (.srt e) s m = (ev G cl e s m).bind fun x m => opt m (semN1 1 x m) := by rw [evN]
@[simp] theorem x_comp {elt : E} {tp : Bool} {vs : List Nat} {it : It} : evN G cl (.comp elt tp vs it c) s m = (evI G cl it s m).bind fun items m => compL (compF G cl elt tp vs c s) items [] m := evN_comp
@[simp] theorem x_iseq : evI G cl (.seq e) s m = (ev G cl e s m).bind fun x m => opt m (semSeq x) := by rw [evI]
@[simp] theorem x_irng : evI G cl (.rng as) s m = (evs G cl as s m).bind fun ds m => opt m (semR ds) := by rw [evI]
@[simp] theorem x_izip : evI G cl (.zip as) s m = (evs G cl as s m).bind fun ds m => opt m (semZ ds) := by rw [evI]
@[simp] theorem x_ienum : evI G cl (.enum e) s m = (ev G cl e s m).bind fun x m => opt m (semE x) := by rw [evI]
variable {sa sb : S} {n : Nat}
@[simp] theorem y_nop : evS G cl .nop s m = .ok (.nx s) m := by rw [evS]
@[simp] theorem y_seq : evS G cl (.seq sa sb) s m = (evS G cl sa s m).bind fun r m => match r with
    | .nx s => evS G cl sb s m
    | r => .ok r m := by rw [evS]; try rfl
@[simp] theorem y_asg {t : Tg} : evS G cl (.asg t e) s m = (ev G cl e s m).bind fun d m => (asg1 G cl t d s m).bind fun s m => .ok (.nx s) m := by rw [evS]
@[simp] theorem y_nm {i : Nat} {d : D} : asg1 G cl (.nm i) d s m = if i < s.length then .ok (s.set i (some d)) m else .err := by rw [asg1]
@[simp] theorem y_ix {d : D} : asg1 G cl (.ix a b) d s m = (ev G cl a s m).bind fun x m => (ev G cl b s m).bind fun y m => (setD x y d m).bind fun _ m => .ok s m := by rw [asg1]
@[simp] theorem y_exp : evS G cl (.exp e) s m = (ev G cl e s m).bind fun _ m => .ok (.nx s) m := by rw [evS]
@[simp] theorem y_ret : evS G cl (.ret e) s m = (ev G cl e s m).bind fun d m => .ok (.rt d) m := by rw [evS]
@[simp] theorem y_ite : evS G cl (.ite c sa sb) s m = (tst (ev G cl c s m)).bind fun x m => if x then evS G cl sa s m else evS G cl sb s m := by rw [evS]
@[simp] theorem y_par {is : List Nat} : evS G cl (.par is as) s m = (evs G cl as s m).bind fun ds m => match setAll is ds s with
    | some s => .ok (.nx s) m
    | none => .err := by rw [evS]; try rfl
@[simp] theorem y_tpl {ts : List Tg} : evS G cl (.tpl ts e) s m = (ev G cl e s m).bind fun d m => match d with
    | .tup ds => if ds.length = ts.length then (asgs G cl ts ds s m).bind fun s m => .ok (.nx s) m else .err
    | _ => .err := by rw [evS]; try rfl
@[simp] theorem u_tp {vs : List Nat} {ds : List D} : asgN true vs (.tup ds) s = setAll vs ds s := rfl
@[simp] theorem u_ntp {vs : List Nat} {d : D} : asgN false vs d s = setAll vs [d] s := rfl
@[simp] theorem u_nil : setAll [] [] s = some s := rfl
@[simp] theorem u_cons {i : Nat} {is : List Nat} {d : D} {ds : List D} : setAll (i :: is) (d :: ds) s = setAll is ds (s.set i (some d)) := rfl
@[simp] theorem u_wn : wipeS s [] = s := rfl
@[simp] theorem u_wc {i : Nat} {is : List Nat} : wipeS s (i :: is) = (wipeS s is).set i none := rfl
@[simp] theorem u_gn : asgs G cl [] [] s m = .ok s m := rfl
@[simp] theorem u_gc {t : Tg} {ts : List Tg} {d : D} {ds : List D} : asgs G cl (t :: ts) (d :: ds) s m = (asg1 G cl t d s m).bind fun s m => asgs G cl ts ds s m := rfl
@[simp] theorem u_ni : E.isNop (.v n) = false := rfl
def loopF (G : Str → Option D) (cl : Str → List D → Mem → R D) (tp : Bool) (vs : List Nat) (b : S) : D → Sl → Mem → R Fl := fun d s m => match asgN tp vs d s with
    | none => .err
    | some s => evS G cl b s m
@[simp] theorem y_loop {tp : Bool} {vs : List Nat} {it : It} : evS G cl (.loop tp vs it sa) s m = (evI G cl it s m).bind fun items m => forL (loopF G cl tp vs sa) items s m := by rw [evS]; try rfl
@[simp] theorem y_lop {tp : Bool} {vs : List Nat} : evS G cl (.lop tp vs a sa) s m = ((ev G cl a s m).bind fun x m => opt m (refOf m x)).bind fun n m => lopL n (loopF G cl tp vs sa) (lim + 1) 0 s m := by rw [evS]; try rfl
@[simp] theorem y_whl : evS G cl (.whl c sa) s m = whL (fun s m => tst (ev G cl c s m)) (fun s m => evS G cl sa s m) lim s m := by rw [evS]
end
section
variable {m : Mem} {x y : D} {i j : Int} {l r : List D}
@[simp] theorem z_add : sem2 .add (.int i) (.int j) m = some (.int (i + j)) := rfl
@[simp] theorem z_addT : sem2 .add (.tup l) (.tup r) m = if l.length + r.length ≤ lim then some (.tup (l ++ r)) else none := rfl
@[simp] theorem z_addL : sem2 .add (.lst l) (.lst r) m = if l.length + r.length ≤ lim then some (.lst (l ++ r)) else none := rfl
@[simp] theorem z_sub : sem2 .sub (.int i) (.int j) m = some (.int (i - j)) := rfl
@[simp] theorem z_mul : sem2 .mul (.int i) (.int j) m = if mulOk i j then some (.int (i * j)) else none := rfl
theorem z_fdiv : sem2 .fdiv (.int i) (.int j) m = if 0 < j ∧ j.natAbs.log2 < 9000 then some (.int (i / j)) else none := rfl
theorem z_fdivS (h : 0 < j) (h2 : j < 2 ^ 64) : sem2 .fdiv (.int i) (.int j) m = some (.int (i / j)) := by
  rw [z_fdiv, if_pos]
  refine ⟨h, ?_⟩
  have e : j.natAbs < 2 ^ 64 := by omega
  have : j.natAbs.log2 < 64 := (Nat.log2_lt (by omega)).mpr e
  omega
@[simp] theorem z_fdiv2 : sem2 .fdiv (.int i) (.int 2) m = some (.int (i / 2)) := z_fdivS (by decide) (by decide)
@[simp] theorem z_mod : sem2 .mod (.int i) (.int j) m = if 0 < j then some (.int (i % j)) else none := rfl
@[simp] theorem z_eq : sem2 .eq x y m = (eqD (x.deref m) (y.deref m)).map .bl := rfl
@[simp] theorem z_ne : sem2 .ne x y m = (eqD (x.deref m) (y.deref m)).map fun b => .bl (!b) := rfl
@[simp] theorem z_lt : sem2 .lt (.int i) (.int j) m = some (.bl (decide (i < j))) := rfl
@[simp] theorem z_le : sem2 .le (.int i) (.int j) m = some (.bl (decide (i ≤ j))) := rfl
@[simp] theorem z_gt : sem2 .gt (.int i) (.int j) m = some (.bl (decide (j < i))) := rfl
@[simp] theorem z_ge : sem2 .ge (.int i) (.int j) m = some (.bl (decide (j ≤ i))) := rfl
@[simp] theorem z_in : sem2 .inn x y m = (y.seq m).bind fun l => (inD x l).map .bl := rfl
@[simp] theorem z_nin : sem2 .nin x y m = (y.seq m).bind fun l => (inD x l).map fun b => .bl (!b) := rfl
@[simp] theorem z_isB {b c : Bool} : sem2 .is (.bl b) (.bl c) m = some (.bl (decide (b = c))) := rfl
@[simp] theorem q_tup : (D.tup l).seq m = some l := rfl
@[simp] theorem q_lst : (D.lst l).seq m = some l := rfl
@[simp] theorem q_scr : (D.scr l).seq m = some l := rfl
@[simp] theorem fr_tup : (D.tup l).frz = some l := rfl
@[simp] theorem fr_lst : (D.lst l).frz = some l := rfl
@[simp] theorem ls_lst : (D.lst l).lseq m = some l := rfl
@[simp] theorem z_ix : semIx x (.int i) m = (x.seq m).bind fun l => atI l i := rfl
theorem at_nat {α : Type} {l : List α} (k : Nat) : atI l (k : Int) = l[k]? := by
  unfold atI ixN
  rw [if_pos (Int.natCast_nonneg k)]
  by_cases h : (k : Int) < l.length
  · rw [if_pos h]
    simp
  · rw [if_neg h, List.getElem?_eq_none (by omega)]
    rfl
@[simp] theorem at0 {α : Type} {l : List α} {a : α} : atI (a :: l) 0 = some a := at_nat 0
@[simp] theorem at1 {α : Type} {l : List α} {a b : α} : atI (a :: b :: l) 1 = some b := at_nat 1
@[simp] theorem at2 {α : Type} {l : List α} {a b c : α} : atI (a :: b :: c :: l) 2 = some c := at_nat 2
theorem at_neg {α : Type} {l : List α} (k : Nat) (hk : 0 < k) (h : k ≤ l.length) : atI l (-(k : Int)) = l[l.length - k]? := by
  unfold atI ixN
  rw [if_neg (by omega), if_pos (by omega)]
  show l[(-(k : Int) + l.length).toNat]? = _
  congr 1
  omega
@[simp] theorem b_len : semBi .len [x] m = (x.seq m).map fun l => .int l.length := rfl
@[simp] theorem b_abs : semBi .abs [.int i] m = some (.int (if i < 0 then -i else i)) := rfl
@[simp] theorem b_int : semBi .int [.int i] m = some (.int i) := rfl
@[simp] theorem b_tuple : semBi .tuple [x] m = (x.seq m).map .tup := rfl
@[simp] theorem b_all : semBi .all [.lst l] m = (toBls l).map fun bs => .bl (bs.all id) := rfl
@[simp] theorem b_any : semBi .any [.lst l] m = (toBls l).map fun bs => .bl (bs.any id) := rfl
@[simp] theorem t_ii : semIsi "int" (.int i) m = some (.bl true) := rfl
@[simp] theorem t_bi : semIsi "bool" (.int i) m = some (.bl false) := rfl
@[simp] theorem t_bb {b : Bool} : semIsi "bool" (.bl b) m = some (.bl true) := rfl
@[simp] theorem t_ss {b : Str} : semIsi "str" (.str b) m = some (.bl true) := rfl
@[simp] theorem t_tt : semIsi "tuple" (.tup l) m = some (.bl true) := rfl
@[simp] theorem s_seqT : semSeq (.tup l) = if l.length ≤ lim then some l else none := rfl
@[simp] theorem s_seqL : semSeq (.lst l) = if l.length ≤ lim then some l else none := rfl
end
section
variable {Γ : Gam} {n : Nat} {m : Mem}
theorem p_is_across (h : Γ.fn "is_across" = some f_is_across) (a b : Int) : callN Γ (n + 1) "is_across" [.int a, .int b] m = .ok (.bl (!decide (a % 2 = b % 2))) m := by
  rw [callN_eq h rfl]
  simp [f_is_across, a_is_across]
theorem p_is_between (h : Γ.fn "is_between" = some f_is_between) (a b c : Int) : callN Γ (n + 1) "is_between" [.int a, .int b, .int c] m = .ok (.bl (decide (b ≤ a) && decide (a ≤ c))) m := by
  rw [callN_eq h rfl]
  by_cases h1 : b ≤ a <;> simp [f_is_between, a_is_between, h1]
/-! ### ranges -/
theorem bnd_ok {i : Int} (h : -(2 ^ 62) ≤ i) (h2 : i ≤ 1000000) : bnd i = true := by
  unfold bnd
  rw [decide_eq_true h, decide_eq_true h2]
  rfl
def iD (k : Nat) : D := .int (k : Int)
theorem rngs01 (n : Nat) : rngs 0 n 1 = (List.range n).map iD := by
  unfold rngs
  congr 1
  funext k
  simp [iD]
theorem semR1 {j : Int} (h : -(2 ^ 62) ≤ j) (h2 : j ≤ 1000000) : semR [.int j] = some ((List.range j.toNat).map iD) := by
  rw [← rngs01]
  exact if_pos (bnd_ok h h2)
@[simp] theorem z_neg {i : Int} : sem1 .neg (.int i) = some (.int (-i)) := rfl
/-! ### loops -/
theorem forL_inv {f : D → Sl → Mem → R Fl} (I : Nat → Sl → Mem → Prop) : ∀ (ds : List D) (k : Nat) (s : Sl) (m : Mem), I k s m → (∀ (j : Nat) (d : D) (s : Sl) (m : Mem), ds[j]? = some d → I (k + j) s m → ∃ s' m', f d s m = .ok (.nx s') m' ∧ I (k + j + 1) s' m') →
    ∃ s' m', forL f ds s m = .ok (.nx s') m' ∧ I (k + ds.length) s' m'
  | [], k, s, m, h, _ => ⟨s, m, rfl, h⟩
  | d :: ds, k, s, m, h, st => by
    obtain ⟨s1, m1, e, h1⟩ := st 0 d s m rfl h
    obtain ⟨s2, m2, e2, h2⟩ := forL_inv I ds (k + 1) s1 m1 h1 fun j d s m hd hI => by
      have := st (j + 1) d s m (by simpa using hd) (by rw [show k + (j + 1) = k + 1 + j by omega]; exact hI)
      rw [show k + (j + 1) + 1 = k + 1 + j + 1 by omega] at this
      exact this
    refine ⟨s2, m2, ?_, by rw [List.length_cons, show k + (ds.length + 1) = k + 1 + ds.length by omega]; exact h2⟩
    rw [forL, e]
    exact e2
/-- a loop over plain data that changes the slots alone -/
theorem forL_fold {f : D → Sl → Mem → R Fl} {α β : Type} (φ : α → D) (S : β → Sl) (g : β → α → β) (hf : ∀ (a : α) (b : β) (m : Mem), f (φ a) (S b) m = .ok (.nx (S (g b a))) m) : ∀ (l : List α) (b : β) (m : Mem), forL f (l.map φ) (S b) m = .ok (.nx (S (l.foldl g b))) m
  | [], b, m => rfl
  | a :: l, b, m => by
    rw [List.map_cons, forL, hf]
    exact forL_fold φ S g hf l (g b a) m
/-- a comprehension over plain data without an effect -/
theorem compL_map {f : D → Mem → R (Option D)} {α : Type} (φ : α → D) (p : α → Bool) (g : α → D) (hf : ∀ (a : α) (m : Mem), f (φ a) m = .ok (if p a then some (g a) else none) m) : ∀ (l : List α) (acc : List D) (m : Mem), compL f (l.map φ) acc m = .ok (acc ++ (l.filter p).map g) m
  | [], acc, m => by simp [compL]
  | a :: l, acc, m => by
    rw [List.map_cons, compL, hf]
    cases hp : p a with
    | true =>
      simp only [if_true, List.filter_cons, hp]
      rw [compL_map φ p g hf l]
      simp
    | false =>
      simp only [Bool.false_eq_true, if_false, List.filter_cons, hp]
      exact compL_map φ p g hf l acc m
/-- .. the same, where only members count -/
theorem compL_mapM {f : D → Mem → R (Option D)} {α : Type} (φ : α → D) (p : α → Bool) (g : α → D) : ∀ (l : List α) (acc : List D) (m : Mem), (∀ (a : α) (m : Mem), a ∈ l → f (φ a) m = .ok (if p a then some (g a) else none) m) → compL f (l.map φ) acc m = .ok (acc ++ (l.filter p).map g) m
  | [], acc, m, _ => by simp [compL]
  | a :: l, acc, m, hf => by
    rw [List.map_cons, compL, hf a m List.mem_cons_self]
    have ih := fun acc m => compL_mapM φ p g l acc m fun a m h => hf a m (List.mem_cons_of_mem _ h)
    cases hp : p a with
    | true =>
      simp only [if_true, List.filter_cons, hp]
      rw [ih]
      simp
    | false =>
      simp only [Bool.false_eq_true, if_false, List.filter_cons, hp]
      exact ih acc m
theorem toInts_map : ∀ (l : List Int), toInts (l.map .int) = some l
  | [] => rfl
  | i :: l => by simp [toInts, toInts_map l]
theorem toBls_map : ∀ (l : List Bool), toBls (l.map .bl) = some l
  | [] => rfl
  | i :: l => by simp [toBls, toBls_map l]
/-! ### the pairs of neighbours -/
def prs : List Int → List (Int × Int)
  | a :: b :: l => (a, b) :: prs (b :: l)
  | _ => []
def pD (p : Int × Int) : D := .tup [.int p.1, .int p.2]
theorem zip_prs : ∀ (l : List Int), zipD (l.map .int) ((l.map D.int).drop 1) = (prs l).map pD
  | [] => by simp [zipD, prs]
  | [a] => by simp [zipD, prs]
  | a :: b :: l => by
    have := zip_prs (b :: l)
    simp only [List.map_cons, List.drop_succ_cons, List.drop_zero] at this ⊢
    rw [zipD, this]
    simp [prs, pD]
theorem prs_len : ∀ (l : List Int), (prs l).length = l.length - 1
  | [] => rfl
  | [a] => rfl
  | a :: b :: l => by simp [prs, prs_len (b :: l)]
theorem cut_one (l : List D) : cutD l (some 1) none = l.drop 1 := by
  unfold cutD
  have e : HT.sIx l.length 0 (some 1) = min 1 l.length := by simp [HT.sIx]
  have e2 : HT.sIx l.length l.length none = l.length := rfl
  rw [e, e2]
  cases l with
  | nil => rfl
  | cons a l => simp
theorem p_stretches_of (h : Γ.fn "stretches_of" = some f_stretches_of) (hs : List Int) (hl : hs.length ≤ lim) : callN Γ (n + 1) "stretches_of" [.tup (hs.map .int)] m = .ok (.lst ((prs hs).map pD)) m := by
  rw [callN_eq h rfl]
  have hz := zip_prs hs
  simp [f_stretches_of, a_stretches_of, pO, E.isNop, semPart, semSl, cut_one, semZT, hl]
  rw [← hz, List.drop_one]
def acr (p : Int × Int) : Bool := !decide (p.1 % 2 = p.2 % 2)
def tiedG (t : List Int) (p : Int × Int) : List Int := if acr p then t ++ [p.1, p.2] else t
def tiedOf (hs : List Int) : List Int := (prs hs).foldl tiedG []
def looseL (hs : List Int) : List Int := srtI (hs.filter fun h => decide (h ∉ tiedOf hs))
theorem forL_foldP {f : D → Sl → Mem → R Fl} {α β : Type} (φ : α → D) (S : β → Sl) (g : β → α → β) (N : Nat) (P : Nat → β → Prop) (hf : ∀ (k : Nat) (a : α) (b : β) (m : Mem), k < N → P k b → f (φ a) (S b) m = .ok (.nx (S (g b a))) m ∧ P (k + 1) (g b a)) :
    ∀ (l : List α) (k : Nat) (b : β) (m : Mem), k + l.length ≤ N → P k b → forL f (l.map φ) (S b) m = .ok (.nx (S (l.foldl g b))) m
  | [], k, b, m, _, _ => rfl
  | a :: l, k, b, m, hk, hP => by
    simp only [List.length_cons] at hk
    obtain ⟨e, hP'⟩ := hf k a b m (by omega) hP
    rw [List.map_cons, forL, e]
    exact forL_foldP φ S g N P hf l (k + 1) (g b a) m (by omega) hP'
theorem fold_fst {α β γ : Type} (g : α → β → α) (k : β → γ) : ∀ (l : List β) (t : α) (o : γ), (l.foldl (fun (b : α × γ) p => (g b.1 p, k p)) (t, o)).1 = l.foldl g t
  | [], t, o => rfl
  | a :: l, t, o => fold_fst g k l (g t a) (k a)
theorem flat_ints (l : List Int) : (l.map D.int).all D.flat = true := by
  rw [List.all_map]
  exact List.all_eq_true.mpr fun _ _ => rfl
theorem inD_ints (h : Int) (l : List Int) : inD (.int h) (l.map .int) = some (decide (h ∈ l)) := by
  unfold inD
  rw [flat_ints]
  simp only [D.flat, Bool.and_self, if_true, List.any_map]
  congr 1
  rw [Bool.eq_iff_iff]
  simp [eqF]
theorem p_loose_of (h1 : Γ.fn "loose_of" = some f_loose_of) (h2 : Γ.fn "stretches_of" = some f_stretches_of) (h3 : Γ.fn "is_across" = some f_is_across) (hs : List Int) (hl : hs.length ≤ 1000) :
    callN Γ (n + 2) "loose_of" [.tup (hs.map .int)] m = .ok (.lst ((looseL hs).map .int)) m := by
  rw [callN_eq h1 rfl]
  have hlim : hs.length ≤ lim := Nat.le_trans hl (by decide)
  have hpl : (prs hs).length ≤ lim := by rw [prs_len]; omega
  simp [f_loose_of, a_loose_of, p_stretches_of h2 hs hlim, hpl]
  have key := forL_foldP (f := loopF Γ.con (callN Γ (n + 1)) true [2, 3] (.seq (.ite (.call "is_across" (.cons (.v 2) (.cons (.v 3) .nil))) (.seq (.asg (.nm 1) (.o2 .add (.v 1) (.nl false (.disp (.cons (.v 2) (.cons (.v 3) .nil)))))) .nop) .nop) .nop))
    pD (fun (b : List Int × Option (Int × Int)) => [some (.tup (hs.map .int)), some (.lst (b.1.map .int)), b.2.map (fun p => .int p.1), b.2.map (fun p => .int p.2), none]) (fun b p => (tiedG b.1 p, some p)) 2000 (fun k b => b.1.length ≤ 2 * k) (fun k p b m hk hP => by
      have hb : b.1.length + 2 ≤ lim := by show _ ≤ 1000000; omega
      have e : acr p = !decide (p.1 % 2 = p.2 % 2) := rfl
      refine ⟨?_, ?_⟩
      · by_cases hc : p.1 % 2 = p.2 % 2 <;> simp [loopF, pD, p_is_across h3, tiedG, e, hc, hb]
      · have hP : b.1.length ≤ 2 * k := hP
        show (tiedG b.1 p).length ≤ 2 * (k + 1)
        unfold tiedG
        split
        · simp; omega
        · omega) (prs hs) 0 ([], none) m (by rw [prs_len]; omega) (Nat.le_refl _)
  simp only [List.map_nil, Option.map_none] at key
  rw [key, fold_fst]
  generalize ((prs hs).foldl (fun b p => (tiedG b.1 p, some p)) (([] : List Int), (none : Option (Int × Int)))).2 = o
  have hc := compL_map (f := compF Γ.con (callN Γ (n + 1)) (.v 4) false [4] (.o2 .nin (.v 4) (.v 1)) [some (.tup (hs.map .int)), some (.lst ((tiedOf hs).map .int)), o.map (fun p => .int p.1), o.map (fun p => .int p.2), none]) D.int (fun h => decide (h ∉ tiedOf hs)) D.int (fun h m => by
    by_cases hm : h ∈ tiedOf hs <;> simp [compF, E.isNop, inD_ints, hm]) hs [] m
  simp only [List.nil_append] at hc
  simp [hlim, semN1]
  rw [show List.foldl tiedG [] (prs hs) = tiedOf hs from rfl, hc]
  simp [toInts_map, looseL]
theorem pys_can : ∀ (l : List Int), PyData.canLayAll0 (pys (l.map .int)) = true ∧ PyData.depthAll (pys (l.map .int)) ≤ 1
  | [] => by simp [pys, PyData.canLayAll0, PyData.depthAll]
  | i :: l => by
    obtain ⟨h1, h2⟩ := pys_can l
    simp only [List.map_cons, pys, D.py, PyData.canLayAll0, PyData.depthAll]
    exact ⟨by rw [h1]; rfl, Nat.max_le.mpr ⟨by simp [PyData.depth], h2⟩⟩
theorem sh_ints (l : List Int) : SeqAt.shaped (.list (pys (l.map .int))) = true := by
  obtain ⟨h1, h2⟩ := pys_can l
  unfold SeqAt.shaped
  have e : (PyData.list (pys (l.map .int))).canLay0 = true := by
    unfold PyData.canLay0
    exact h1
  rw [e, Bool.true_and]
  refine decide_eq_true ?_
  simp only [PyData.depth]
  omega
theorem eqv_ints : ∀ (a b : List Int), PyData.eqvAll (pys (a.map .int)) (pys (b.map .int)) = decide (a = b)
  | [], [] => rfl
  | [], b :: bs => by simp [pys, PyData.eqvAll]
  | a :: as, [] => by simp [pys, PyData.eqvAll]
  | a :: as, b :: bs => by
    simp only [List.map_cons, pys, PyData.eqvAll, D.py, PyData.eqv, eqv_ints as bs]
    rw [Bool.eq_iff_iff]
    simp
theorem eqD_ints (a b : List Int) : eqD (.lst (a.map .int)) (.lst (b.map .int)) = some (decide (a = b)) := by
  unfold eqD
  simp only [D.py, sh_ints, Bool.and_self, if_true, PyData.eqv, eqv_ints]
def holdB (hs : List Int) : Bool := decide (looseL hs = [])
theorem p_holding (h0 : Γ.fn "holding" = some f_holding) (h1 : Γ.fn "loose_of" = some f_loose_of) (h2 : Γ.fn "stretches_of" = some f_stretches_of) (h3 : Γ.fn "is_across" = some f_is_across) (hs : List Int) (hl : hs.length ≤ 1000) :
    callN Γ (n + 3) "holding" [.tup (hs.map .int)] m = .ok (.bl (holdB hs)) m := by
  rw [callN_eq h0 rfl]
  have e := eqD_ints (looseL hs) []
  simp only [List.map_nil] at e
  simp [f_holding, a_holding, p_loose_of h1 h2 h3 hs hl, e, holdB]
theorem p_kinds_of (h1 : Γ.fn "kinds_of" = some f_kinds_of) (h2 : Γ.fn "stretches_of" = some f_stretches_of) (h3 : Γ.fn "is_across" = some f_is_across) (hs : List Int) (hl : hs.length ≤ 1000) :
    callN Γ (n + 2) "kinds_of" [.tup (hs.map .int)] m = .ok (.tup [.int (((prs hs).filter fun p => decide (p.1 / 2 = p.2 / 2)).length : Nat), .int ((((prs hs).filter acr).length : Nat) - (((prs hs).filter fun p => decide (p.1 / 2 = p.2 / 2)).length : Nat)), .int (((prs hs).length : Nat) - (((prs hs).filter acr).length : Nat))]) m := by
  rw [callN_eq h1 rfl]
  have hlim : hs.length ≤ lim := Nat.le_trans hl (by decide)
  have hpl : (prs hs).length ≤ lim := by rw [prs_len]; omega
  have hc1 := compL_map (f := compF Γ.con (callN Γ (n + 1)) (.c (.int 1)) true [4, 5] (.call "is_across" (.cons (.v 4) (.cons (.v 5) .nil))) [some (.tup (hs.map .int)), some (.lst ((prs hs).map pD)), none, none, none, none]) pD acr (fun _ => .int 1) (fun p m => by
    have e : acr p = !decide (p.1 % 2 = p.2 % 2) := rfl
    by_cases hm : p.1 % 2 = p.2 % 2 <;> simp [compF, E.isNop, pD, p_is_across h3, e, hm]) (prs hs) [] m
  have hc2 := fun (o : Option D) => compL_map (f := compF Γ.con (callN Γ (n + 1)) (.c (.int 1)) true [4, 5] (.o2 .eq (.o2 .fdiv (.v 4) (.c (.int 2))) (.o2 .fdiv (.v 5) (.c (.int 2)))) [some (.tup (hs.map .int)), some (.lst ((prs hs).map pD)), o, none, none, none]) pD (fun p => decide (p.1 / 2 = p.2 / 2)) (fun _ => .int 1) (fun p m => by
    have hx : (2 : Int).natAbs.log2 < 9000 := by decide
    by_cases hm : p.1 / 2 = p.2 / 2 <;> simp [compF, E.isNop, pD, hm]) (prs hs) [] m
  simp only [List.nil_append] at hc1 hc2
  simp [f_kinds_of, a_kinds_of, p_stretches_of h2 hs hlim, hpl, hc1, hc2]
def Lac (hs : List Int) (k : Nat) : Prop := hs.length = 2 * k ∧ 1 ≤ k ∧ k ≤ 6 ∧ (∀ h ∈ hs, 0 ≤ h ∧ h ≤ 2 * k - 1) ∧ hs.Nodup
theorem uniq_of_nodup : ∀ {l : List Int}, l.Nodup → uniq l = l
  | [], _ => rfl
  | i :: l, h => by
    obtain ⟨h1, h2⟩ := List.nodup_cons.mp h
    rw [uniq, if_neg h1, uniq_of_nodup h2]
theorem p_is_start (h1 : Γ.fn "is_start" = some f_is_start) (hc : Γ.con "STARTS" = some (.tup [.str "in", .str "out"])) (s : Str) (hs : s = "in" ∨ s = "out") : callN Γ (n + 1) "is_start" [.str s] m = .ok (.bl true) m := by
  rw [callN_eq h1 rfl]
  rcases hs with rfl | rfl <;> simp [f_is_start, a_is_start, hc, inD, D.flat, eqF]
theorem p_is_lacing (h1 : Γ.fn "is_lacing" = some f_is_lacing) (h2 : Γ.fn "is_start" = some f_is_start) (h3 : Γ.fn "is_between" = some f_is_between) (hc : Γ.con "STARTS" = some (.tup [.str "in", .str "out"])) (hm : Γ.con "MOST_ROWS" = some (.int 6)) (s : Str) (hs : s = "in" ∨ s = "out") (l : List Int) (k : Nat) (hl : Lac l k) :
    callN Γ (n + 2) "is_lacing" [.tup [.str s, .tup (l.map .int)]] m = .ok (.bl true) m := by
  obtain ⟨e1, e2, e3, e4, e5⟩ := hl
  rw [callN_eq h1 rfl]
  have a1 : (2 : Int) ≤ l.length := by omega
  have a2 : (l.length : Int) ≤ 12 := by omega
  have a3 : ((l.length : Nat) : Int) % 2 = 0 := by omega
  have a4 : l.length ≤ lim := by show _ ≤ 1000000; omega
  have a5 : l.length ≤ 1000 := by omega
  have hc1 := compL_mapM (f := compF Γ.con (callN Γ (n + 1)) (.call "is_between" (.cons (.v 2) (.cons (.c (.int 0)) (.cons (.o2 .sub (.v 1) (.c (.int 1))) .nil)))) false [2] .nop [some (.tup [.str s, .tup (l.map .int)]), some (.int l.length), none]) .int (fun _ => true) (fun _ => .bl true) l [] m (fun a m ha => by
    obtain ⟨b1, b2⟩ := e4 a ha
    have b3 : a ≤ (l.length : Int) - 1 := by omega
    simp [compF, E.isNop, p_is_between h3, b1, b3])
  simp only [List.nil_append] at hc1
  have hb : ∀ (q : List Int), toBls (q.map fun _ => D.bl true) = some (q.map fun _ => true) := fun q => by
    have := toBls_map (q.map fun _ => true)
    rw [List.map_map] at this
    exact this
  have hx : mulOk 2 6 = true := by decide
  have hu : uniq l = l := uniq_of_nodup e5
  have hall : (l.all fun _ => true) = true := List.all_eq_true.mpr fun _ _ => rfl
  simp [f_is_lacing, a_is_lacing, p_is_start h2 hc s hs, hm, a1, a2, a3, a4, hc1, hx, hb, semLset, toInts_map, a5, hu, hall]
theorem p_need (h0 : Γ.fn "need_lacing" = some f_need_lacing) (h1 : Γ.fn "is_lacing" = some f_is_lacing) (h2 : Γ.fn "is_start" = some f_is_start) (h3 : Γ.fn "is_between" = some f_is_between) (hc : Γ.con "STARTS" = some (.tup [.str "in", .str "out"])) (hm : Γ.con "MOST_ROWS" = some (.int 6)) (s : Str) (hs : s = "in" ∨ s = "out") (l : List Int) (k : Nat) (hl : Lac l k) :
    callN Γ (n + 3) "need_lacing" [.tup [.str s, .tup (l.map .int)]] m = .ok .non m := by
  rw [callN_eq h0 rfl]
  simp [f_need_lacing, a_need_lacing, p_is_lacing h1 h2 h3 hc hm s hs l k hl]
/-! ### the runs of the sides -/
def sideL (hs : List Int) : List Int := hs.map fun h => h % 2
def noThree : List Int → Bool
  | a :: b :: c :: l => !(decide (a = b) && decide (b = c)) && noThree (b :: c :: l)
  | _ => true
/-- as the laws say it -/
def runsB (hs : List Int) : Bool := !(decide ((sideL hs)[0]? = (sideL hs)[1]?) || decide ((sideL hs)[hs.length - 1]? = (sideL hs)[hs.length - 2]?)) && noThree (sideL hs)
theorem forL_stop {f : D → Sl → Mem → R Fl} {α : Type} (φ : α → D) (S : Option α → Sl) (p : α → Bool) (v : D) : ∀ (l : List α) (o : Option α) (m : Mem), (∀ (a : α) (o : Option α) (m : Mem), a ∈ l → f (φ a) (S o) m = if p a then .ok (.rt v) m else .ok (.nx (S (some a))) m) → ∃ o', forL f (l.map φ) (S o) m = if l.any p then .ok (.rt v) m else .ok (.nx (S o')) m
  | [], o, m, _ => ⟨o, rfl⟩
  | a :: l, o, m, hf => by
    rw [List.map_cons, forL, hf a o m List.mem_cons_self]
    cases hp : p a with
    | true => exact ⟨o, by simp [hp]⟩
    | false =>
      obtain ⟨o', h⟩ := forL_stop φ S p v l (some a) m fun a o m h => hf a o m (List.mem_cons_of_mem _ h)
      refine ⟨o', ?_⟩
      simp only [Bool.false_eq_true, if_false, x_bind, List.any_cons, hp, Bool.false_or]
      exact h
theorem noThree_any : ∀ (l : List Int), (List.range (l.length - 2)).any (fun i => decide (l[i]? = l[i + 1]?) && decide (l[i + 1]? = l[i + 2]?)) = !noThree l
  | [] => rfl
  | [a] => rfl
  | [a, b] => rfl
  | a :: b :: c :: l => by
    have ih := noThree_any (b :: c :: l)
    have e1 : (a :: b :: c :: l).length - 2 = (b :: c :: l).length - 2 + 1 := by simp
    rw [e1, List.range_succ_eq_map, List.any_cons, List.any_map]
    have e2 : (((fun i => decide ((a :: b :: c :: l)[i]? = (a :: b :: c :: l)[i + 1]?) && decide ((a :: b :: c :: l)[i + 1]? = (a :: b :: c :: l)[i + 2]?)) ∘ Nat.succ)) = fun i => decide ((b :: c :: l)[i]? = (b :: c :: l)[i + 1]?) && decide ((b :: c :: l)[i + 1]? = (b :: c :: l)[i + 2]?) := by
      funext i
      rfl
    rw [e2, ih]
    simp [noThree]
theorem p_law_runs (h1 : Γ.fn "_law_runs" = some f_law_runs) (hs : List Int) (k : Nat) (hl : Lac hs k) : callN Γ (n + 1) "_law_runs" [.tup (hs.map .int)] m = .ok (.bl (runsB hs)) m := by
  obtain ⟨e1, e2, e3, e4, e5⟩ := hl
  have a4 : hs.length ≤ lim := by show _ ≤ 1000000; omega
  rw [callN_eq h1 rfl]
  have hc1 := compL_map (f := compF Γ.con (callN Γ n) (.o2 .mod (.bi .int (.cons (.v 3) .nil)) (.c (.int 2))) false [3] .nop [some (.tup (hs.map .int)), none, none, none]) .int (fun _ => true) (fun h => .int (h % 2)) (fun h m => by
    simp [compF, E.isNop]) hs [] m
  have hs2 : (hs.filter fun _ => true) = hs := List.filter_eq_self.mpr fun _ _ => rfl
  rw [hs2] at hc1
  have hsd : (hs.map fun h => D.int (h % 2)) = (sideL hs).map .int := by rw [sideL, List.map_map]; rfl
  rw [hsd] at hc1
  simp only [List.nil_append] at hc1
  have hlen : (sideL hs).length = hs.length := by simp [sideL]
  unfold runsB
  rw [← hlen]
  rw [← hlen] at e1
  generalize sideL hs = sd at hc1 e1 ⊢
  have get : ∀ i, i < sd.length → ∃ x, sd[i]? = some x := fun i hi => ⟨_, List.getElem?_eq_getElem hi⟩
  obtain ⟨s0, q0⟩ := get 0 (by omega)
  obtain ⟨s1, q1⟩ := get 1 (by omega)
  obtain ⟨t1, r1⟩ := get (sd.length - 1) (by omega)
  obtain ⟨t2, r2⟩ := get (sd.length - 2) (by omega)
  have g0 : atI (sd.map D.int) 0 = some (.int s0) := by
    have := at_nat (l := sd.map D.int) 0
    rw [List.getElem?_map, q0] at this
    exact this
  have g1 : atI (sd.map D.int) 1 = some (.int s1) := by
    have := at_nat (l := sd.map D.int) 1
    rw [List.getElem?_map, q1] at this
    exact this
  have g2 : atI (sd.map D.int) (-1) = some (.int t1) := by
    have := at_neg (l := sd.map D.int) 1 (by decide) (by rw [List.length_map]; omega)
    rw [List.getElem?_map, List.length_map, r1] at this
    exact this
  have g3 : atI (sd.map D.int) (-2) = some (.int t2) := by
    have := at_neg (l := sd.map D.int) 2 (by decide) (by rw [List.length_map]; omega)
    rw [List.getElem?_map, List.length_map, r2] at this
    exact this
  have hr := semR1 (j := (sd.length : Int) - 2) (by omega) (by omega)
  have hr2 : ((sd.length : Int) - 2).toNat = sd.length - 2 := by omega
  rw [hr2] at hr
  have hg : ∀ (i : Nat) (x : Int), sd[i]? = some x → atI (sd.map D.int) ((i : Nat) : Int) = some (.int x) := fun i x h => by
    rw [at_nat, List.getElem?_map, h]
    rfl
  obtain ⟨o, hloop⟩ := forL_stop (f := loopF Γ.con (callN Γ n) false [2] (.seq (.ite (.ch .eq .eq (.idx (.v 1) (.v 2)) (.idx (.v 1) (.o2 .add (.v 2) (.c (.int 1)))) (.idx (.v 1) (.o2 .add (.v 2) (.c (.int 2))))) (.seq (.ret (.c (.bl false))) .nop) .nop) .nop)) iD
    (fun o => [some (.tup (hs.map .int)), some (.lst (sd.map .int)), o.map iD, none]) (fun i => decide (sd[i]? = sd[i + 1]?) && decide (sd[i + 1]? = sd[i + 2]?)) (.bl false) (List.range (sd.length - 2)) none m (fun i o m hi => by
      have hi := List.mem_range.mp hi
      obtain ⟨x, hx⟩ := get i (by omega)
      obtain ⟨y, hy⟩ := get (i + 1) (by omega)
      obtain ⟨z, hz⟩ := get (i + 2) (by omega)
      have c1 := hg i x hx
      have c2 := hg (i + 1) y hy
      have c3 := hg (i + 2) z hz
      have w1 : ((i + 1 : Nat) : Int) = (i : Int) + 1 := by omega
      have w2 : ((i + 2 : Nat) : Int) = (i : Int) + 2 := by omega
      rw [w1] at c2
      rw [w2] at c3
      rcases Decidable.em (y = z) with rfl | b2 <;> by_cases b1 : x = y <;> simp [loopF, iD, c1, c2, c3, hx, hy, hz, b1, *])
  rw [noThree_any] at hloop
  simp only [Option.map_none] at hloop
  by_cases b1 : s0 = s1 <;> by_cases b2 : t1 = t2 <;> cases b3 : noThree sd <;> simp [f_law_runs, a_law_runs, a4, hc1, g0, g1, g2, g3, hr, hloop, q0, q1, r1, r2, b1, b2, b3]
end
end LR

set_option Elab.async false
set_option linter.all false
set_option maxRecDepth 100000
set_option maxHeartbeats 4000000
namespace LR
open PySem PySem.Spec PyProof.Rows L2
/-! ### the source of draws -/
def SrcAt (m : Mem) (c : Nat) : Prop := ∃ a b : Int, m[c]? = some (.lst [.int a, .int b]) ∧ 0 ≤ a ∧ 0 ≤ b ∧ b < 2147483648
def Mx (c : Nat) (m m' : Mem) : Prop := m.length ≤ m'.length ∧ SrcAt m' c ∧ ∀ i, i < m.length → i ≠ c → m'[i]? = m[i]?
theorem Mx.refl {c : Nat} {m : Mem} (h : SrcAt m c) : Mx c m m := ⟨Nat.le_refl _, h, fun _ _ _ => rfl⟩
theorem Mx.trans {c : Nat} {m m1 m2 : Mem} (a : Mx c m m1) (b : Mx c m1 m2) : Mx c m m2 :=
  ⟨Nat.le_trans a.1 b.1, b.2.1, fun i hi hc => (b.2.2 i (Nat.lt_of_lt_of_le hi a.1) hc).trans (a.2.2 i hi hc)⟩
theorem SrcAt.lt {m : Mem} {c : Nat} (h : SrcAt m c) : c < m.length := by
  obtain ⟨a, b, e, _⟩ := h
  exact (List.getElem?_eq_some_iff.mp e).1
theorem seq_ref {m : Mem} {c : Nat} {l : List D} (h : m[c]? = some (.lst l)) : (D.ref c).seq m = some l := by
  simp only [D.seq]
  rw [h]
theorem setD_ref {m : Mem} {c : Nat} {l : List D} {k : Int} {j : Nat} {y : D} (h : m[c]? = some (.lst l)) (hj : ixN l.length k = some j) : setD (.ref c) (.int k) y m = .ok () (m.set c (.lst (l.set j y))) := by
  simp only [setD]
  rw [h]
  simp only
  rw [hj]
theorem mulOk_r {i j : Int} (h : -(2 ^ 64) < j) (h2 : j < 2 ^ 64) : mulOk i j = true := by
  unfold mulOk
  simp only [Bool.or_eq_true, Bool.and_eq_true, decide_eq_true_eq]
  exact .inl (.inr ⟨h, h2⟩)
theorem mulOk_l {i j : Int} (h : -(2 ^ 64) < i) (h2 : i < 2 ^ 64) : mulOk i j = true := by
  unfold mulOk
  simp only [Bool.or_eq_true, Bool.and_eq_true, decide_eq_true_eq]
  exact .inl (.inl ⟨h, h2⟩)
theorem z_mulR {i j : Int} {m : Mem} (h : -(2 ^ 64) < j) (h2 : j < 2 ^ 64) : sem2 .mul (.int i) (.int j) m = some (.int (i * j)) := by
  rw [z_mul, mulOk_r h h2]
  rfl
theorem z_mulL {i j : Int} {m : Mem} (h : -(2 ^ 64) < i) (h2 : i < 2 ^ 64) : sem2 .mul (.int i) (.int j) m = some (.int (i * j)) := by
  rw [z_mul, mulOk_l h h2]
  rfl
theorem z_pow18 {m : Mem} : sem2 .pow (.int 10) (.int 18) m = some (.int 1000000000000000000) := by
  show (if (0 : Int) ≤ 18 ∧ (18 : Int) ≤ 1000000 ∧ (10 : Int).natAbs < 2 ^ 64 then some (D.int ((10 : Int) ^ (18 : Int).toNat)) else none) = _
  rw [if_pos (by decide)]
  rfl
theorem z_modS {i j : Int} {m : Mem} (h : 0 < j) : sem2 .mod (.int i) (.int j) m = some (.int (i % j)) := by rw [z_mod, if_pos h]
section
variable {Γ : Gam} {n : Nat} {m : Mem}
theorem p_source (h1 : Γ.fn "_law_source" = some f_law_source) (ns : List Int) (k : Nat) (hk : k ≤ 1000) : ∃ a b : Int, callN Γ (n + 1) "_law_source" [.scr (ns.map .int), .int k] m = .ok (.ref m.length) (m ++ [.lst [.int a, .int b]]) ∧ 0 ≤ a ∧ 0 ≤ b ∧ b < 2147483648 := by
  have main : ∀ cell : Int, 0 ≤ cell → ∃ a b : Int, (∀ (x : Option D), fin (evS Γ.con (callN Γ n) (.seq (.ite (.o2 .lt (.v 2) (.o2 .pow (.c (.int 10)) (.c (.int 18)))) (.seq (.ret (.nl true (.disp (.cons (.c (.int 0)) (.cons (.o2 .add (.c (.int 1)) (.o2 .mod (.bi .int (.cons (.o2 .add (.o2 .mul (.v 2) (.c (.int 7919))) (.o2 .mul (.c (.int 104729)) (.v 1))) .nil)) (.c (.int 2147483646)))) .nil))))) .nop) .nop) (.seq (.ret (.nl true (.disp (.cons (.v 2) (.cons (.o2 .add (.c (.int 1)) (.o2 .mod (.bi .int (.cons (.o2 .add (.v 2) (.v 1)) .nil)) (.c (.int 2147483646)))) .nil))))) .nop)) [x, some (.int k), some (.int cell)] m) = .ok (.ref m.length) (m ++ [.lst [.int a, .int b]])) ∧ 0 ≤ a ∧ 0 ≤ b ∧ b < 2147483648 := by
    intro cell hc
    have e1 := z_mulR (i := cell) (j := 7919) (m := m) (by decide) (by decide)
    have e2 := z_mulL (i := 104729) (j := (k : Int)) (m := m) (by decide) (by decide)
    by_cases hlt : cell < 1000000000000000000
    · refine ⟨0, 1 + (cell * 7919 + 104729 * k) % 2147483646, fun x => ?_, by omega, by omega, by omega⟩
      simp [-z_mul, z_pow18, hlt, e1, e2, z_modS]
    · refine ⟨cell, 1 + (cell + k) % 2147483646, fun x => ?_, hc, by omega, by omega⟩
      simp [-z_mul, z_pow18, hlt, z_modS]
  rw [callN_eq h1 rfl]
  by_cases hl : (k : Int) < ns.length
  · have hg : atI (ns.map D.int) ((k : Nat) : Int) = some (.int (ns.getD k 0)) := by
      rw [at_nat, List.getElem?_map, List.getElem?_eq_getElem (by omega : k < ns.length), List.getD_eq_getElem?_getD, List.getElem?_eq_getElem (by omega : k < ns.length)]
      rfl
    have h0 : 0 ≤ (if ns.getD k 0 < 0 then -(ns.getD k 0) else ns.getD k 0) := by split <;> omega
    obtain ⟨a, b, hab, h3⟩ := main _ h0
    refine ⟨a, b, ?_, h3⟩
    rw [← hab (some (.scr (ns.map .int)))]
    simp [-z_mul, f_law_source, a_law_source, hl, hg]
  · obtain ⟨a, b, hab, h3⟩ := main 0 (Int.le_refl 0)
    refine ⟨a, b, ?_, h3⟩
    rw [← hab (some (.scr (ns.map .int)))]
    simp [-z_mul, f_law_source, a_law_source, hl]
theorem p_draw (h1 : Γ.fn "_law_draw" = some f_law_draw) {c : Nat} (hs : SrcAt m c) (s : Int) (hs1 : 1 ≤ s) (hs2 : s < 2 ^ 32) : ∃ (r : Int) (m' : Mem), callN Γ (n + 1) "_law_draw" [.ref c, .int s] m = .ok (.int r) m' ∧ 0 ≤ r ∧ r < s ∧ Mx c m m' ∧ m'.length = m.length := by
  obtain ⟨a, b, e, ha, hb, hb2⟩ := id hs
  have hlt := hs.lt
  have sq := seq_ref e
  rw [callN_eq h1 rfl]
  have setx : ∀ (a' b' : Int), 0 ≤ a' → 0 ≤ b' → b' < 2147483648 → Mx c m (m.set c (.lst [.int a', .int b'])) := fun a' b' x1 x2 x3 =>
    ⟨by rw [List.length_set]; exact Nat.le_refl _, ⟨a', b', by rw [List.getElem?_set_self hlt], x1, x2, x3⟩, fun i hi hc => List.getElem?_set_ne (Ne.symm hc)⟩
  by_cases h0 : 0 < a
  · have e1 := z_modS (i := a) (m := m) (show 0 < s by omega)
    have e2 := z_fdivS (i := a) (m := m) (show 0 < s by omega) (by omega)
    have e3 := setD_ref (k := 0) (j := 0) (y := .int (a / s)) e rfl
    refine ⟨a % s, m.set c (.lst [.int (a / s), .int b]), ?_, Int.emod_nonneg _ (by omega), Int.emod_lt_of_pos _ (by omega), setx _ _ (Int.ediv_nonneg ha (by omega)) hb hb2, by rw [List.length_set]⟩
    simp [-z_mul, -z_mod, f_law_draw, a_law_draw, sq, h0, e1, e2, e3]
  · have e1 := z_mulR (i := b) (j := 48271) (m := m) (by decide) (by decide)
    have e3 := setD_ref (k := 1) (j := 1) (y := .int (b * 48271 % 2147483647)) e rfl
    generalize hb1 : b * 48271 % 2147483647 = b1 at e3
    have p1 : 0 ≤ b1 ∧ b1 < 2147483647 := by omega
    have sq2 := seq_ref (m := m.set c (.lst ([D.int a, .int b].set 1 (.int b1)))) (c := c) (List.getElem?_set_self hlt)
    simp only [List.set_cons_succ, List.set_cons_zero] at sq2 e3
    have e4 := z_mulR (i := b1) (j := b1) (m := m.set c (.lst [.int a, .int b1])) (by omega) (by omega)
    have e5 : ∀ i m, sem2 .fdiv (.int i) (.int 64) m = some (.int (i / 64)) := fun i m => z_fdivS (by decide) (by decide)
    refine ⟨b1 * b1 % 2147483629 / 64 % s, m.set c (.lst [.int a, .int b1]), ?_, Int.emod_nonneg _ (by omega), Int.emod_lt_of_pos _ (by omega), setx _ _ ha p1.1 (by omega), by rw [List.length_set]⟩
    simp [-z_mul, -z_mod, f_law_draw, a_law_draw, sq, h0, e1, e3, z_modS, hb1, sq2, e4, e5, show 0 < s by omega]
end
end LR

set_option Elab.async false
set_option linter.all false
set_option maxRecDepth 100000
set_option maxHeartbeats 4000000
namespace LR
open PySem PySem.Spec PyProof.Rows L2
section
variable {Γ : Gam} {n : Nat} {m : Mem}
theorem p_choice (h0 : Γ.fn "_law_choice" = some f_law_choice) (h1 : Γ.fn "_law_draw" = some f_law_draw) {c : Nat} (hs : SrcAt m c) (x : D) (items : List D) (hx : ∀ m', Mx c m m' → x.seq m' = some items) (hl : 1 ≤ items.length) (hl2 : items.length ≤ 1000) :
    ∃ (y : D) (m' : Mem), callN Γ (n + 2) "_law_choice" [.ref c, x] m = .ok y m' ∧ y ∈ items ∧ Mx c m m' ∧ m'.length = m.length := by
  obtain ⟨r, m', e, h2, h3, h4, h5⟩ := p_draw (n := n) h1 hs (items.length : Int) (by omega) (by omega)
  have hr : r.toNat < items.length := by omega
  have hg : atI items r = some items[r.toNat] := by
    have := at_nat (l := items) r.toNat
    rw [Int.toNat_of_nonneg h2] at this
    rw [this, List.getElem?_eq_getElem hr]
  refine ⟨items[r.toNat], m', ?_, List.getElem_mem hr, h4, h5⟩
  rw [callN_eq h0 rfl]
  have hx0 := hx m (Mx.refl hs)
  have hx1 := hx m' h4
  simp [f_law_choice, a_law_choice, hx0, e, hx1, hg]
def rI (k : Nat) : List Int := (List.range k).map fun (i : Nat) => (i : Int)
theorem range_iD (k : Nat) : (List.range k).map iD = (rI k).map .int := by
  unfold rI
  rw [List.map_map]
  rfl
theorem semR3d {i : Int} (h : -(2 ^ 62) ≤ i) (h2 : i ≤ 1000000) : semR [.int i, .int 0, .int (-1)] = some ((List.range i.toNat).map fun (j : Nat) => .int (i + (j : Int) * (-1))) := by
  unfold semR
  simp only
  rw [if_pos]
  · rw [Int.sub_zero]
    rfl
  · rw [bnd_ok h h2, bnd_ok (by decide) (by decide)]
    have : (i - 0).toNat ≤ lim := by show _ ≤ 1000000; omega
    simp [this]
    omega
theorem getM {m : Mem} {d : Nat} {l : List D} {i : Nat} {x : D} (h : m[d]? = some (.lst l)) (hx : l[i]? = some x) : semIx (.ref d) (.int (i : Int)) m = some x := by
  rw [z_ix, seq_ref h, Option.bind_some, at_nat, hx]
theorem ixN_nat {n i : Nat} (h : i < n) : ixN n (i : Int) = some i := by
  unfold ixN
  rw [if_pos (by omega), if_pos (by omega)]
  rfl
theorem p_order (h0 : Γ.fn "_law_order" = some f_law_order) (h1 : Γ.fn "_law_draw" = some f_law_draw) {c : Nat} (hs : SrcAt m c) (k : Nat) (hk : 1 ≤ k) (hk2 : k ≤ 1000) :
    ∃ (hs : List Int) (m' : Mem), callN Γ (n + 2) "_law_order" [.ref c, .int k] m = .ok (.tup (hs.map .int)) m' ∧ hs.Perm (rI k) ∧ Mx c m m' := by
  have hcl := hs.lt
  have hr := semR1 (j := (k : Int)) (by omega) (by omega)
  rw [Int.toNat_natCast, range_iD] at hr
  have hr3 := semR3d (i := (k : Int) - 1) (by omega) (by omega)
  have hm0 : Mx c m (m ++ [.lst ((rI k).map .int)]) := by
    refine ⟨by simp, ?_, fun i hi hc => List.getElem?_append_left hi⟩
    obtain ⟨a, b, e, h⟩ := hs
    exact ⟨a, b, by rw [List.getElem?_append_left hcl]; exact e, h⟩
  have inv := forL_inv (f := loopF Γ.con (callN Γ (n + 1)) false [3] (.seq (.asg (.nm 4) (.call "_law_draw" (.cons (.v 0) (.cons (.o2 .add (.v 3) (.c (.int 1))) .nil)))) (.seq (.tpl [.ix (.v 2) (.v 3), .ix (.v 2) (.v 4)] (.tup (.cons (.idx (.v 2) (.v 4)) (.cons (.idx (.v 2) (.v 3)) .nil)))) .nop)))
    (fun _ s m' => ∃ (q : List Int) (o1 o2 : Option D), s = [some (.ref c), some (.int k), some (.ref m.length), o1, o2] ∧ m'[m.length]? = some (.lst (q.map .int)) ∧ q.Perm (rI k) ∧ Mx c m m')
    ((List.range ((k : Int) - 1).toNat).map fun (j : Nat) => .int ((k : Int) - 1 + (j : Int) * (-1))) 0 [some (.ref c), some (.int k), some (.ref m.length), none, none] (m ++ [.lst ((rI k).map .int)])
    ⟨rI k, none, none, rfl, by simp, .refl _, hm0⟩ (by
      rintro j d s m1 hd ⟨q, o1, o2, rfl, hq, hp, hx⟩
      rw [List.getElem?_map] at hd
      obtain ⟨j', hj', rfl⟩ := Option.map_eq_some_iff.mp hd
      have hj2 := List.getElem?_eq_some_iff.mp hj'
      obtain ⟨hj3, hj4⟩ := hj2
      rw [List.getElem_range] at hj4
      subst hj4
      rw [List.length_range] at hj3
      have hp0 : ∃ p : Nat, (k : Int) - 1 + (j : Int) * (-1) = p ∧ 1 ≤ p ∧ p < k := ⟨k - 1 - j, by omega, by omega, by omega⟩
      obtain ⟨p, hp1, hp2, hp3⟩ := hp0
      rw [hp1]
      obtain ⟨r, m2, e, h2, h3, h4, h5⟩ := p_draw (n := n) h1 hx.2.1 ((p : Int) + 1) (by omega) (by omega)
      have hrn : ∃ rn : Nat, r = rn ∧ rn < k := ⟨r.toNat, by omega, by omega⟩
      obtain ⟨rn, rfl, hrk⟩ := hrn
      have hql : q.length = k := by rw [hp.length_eq]; simp [rI]
      have hdl : m.length < m1.length := (List.getElem?_eq_some_iff.mp hq).1
      have hq2 : m2[m.length]? = some (.lst (q.map .int)) := by
        rw [h4.2.2 _ hdl (by omega)]
        exact hq
      have g1 : (q.map D.int)[rn]? = some (.int (q[rn]'(by omega))) := by rw [List.getElem?_map, List.getElem?_eq_getElem (by omega : rn < q.length)]; rfl
      have g2 : (q.map D.int)[p]? = some (.int (q[p]'(by omega))) := by rw [List.getElem?_map, List.getElem?_eq_getElem (by omega : p < q.length)]; rfl
      have i1 := getM hq2 g1
      have i2 := getM hq2 g2
      have s1 := setD_ref (y := .int (q[rn]'(by omega))) hq2 (ixN_nat (n := (q.map D.int).length) (i := p) (by rw [List.length_map]; omega))
      have hd2 : m.length < m2.length := by omega
      have s2 := setD_ref (m := m2.set m.length (.lst ((q.map D.int).set p (.int (q[rn]'(by omega)))))) (c := m.length) (y := .int (q[p]'(by omega))) (List.getElem?_set_self hd2) (ixN_nat (n := ((q.map D.int).set p (.int (q[rn]'(by omega)))).length) (i := rn) (by rw [List.length_set, List.length_map]; omega))
      refine ⟨[some (.ref c), some (.int k), some (.ref m.length), some (.int p), some (.int rn)], (m2.set m.length (.lst ((q.map D.int).set p (.int (q[rn]'(by omega)))))).set m.length (.lst (((q.map D.int).set p (.int (q[rn]'(by omega)))).set rn (.int (q[p]'(by omega))))), ?_, (q.set p (q[rn]'(by omega))).set rn (q[p]'(by omega)), _, _, rfl, ?_, ?_, ?_⟩
      · simp [-z_ix, loopF, e, i1, i2, s1, s2]
      · rw [List.getElem?_set_self (by rw [List.length_set]; exact hd2)]
        rw [List.map_set, List.map_set]
      · exact (List.set_set_perm (by omega) (by omega)).trans hp
      · have hx2 := hx.trans h4
        refine ⟨by rw [List.length_set, List.length_set]; exact hx2.1, ?_, fun i hi hc => ?_⟩
        · obtain ⟨a, b, e, h⟩ := h4.2.1
          exact ⟨a, b, by rw [List.getElem?_set_ne (by omega), List.getElem?_set_ne (by omega)]; exact e, h⟩
        · rw [List.getElem?_set_ne (by omega), List.getElem?_set_ne (by omega)]
          exact hx2.2.2 i hi hc)
  obtain ⟨s', m', e, q, o1, o2, rfl, hq, hp, hx⟩ := inv
  refine ⟨q, m', ?_, hp, hx⟩
  rw [callN_eq h0 rfl]
  have sq := seq_ref hq
  generalize ((List.range ((k : Int) - 1).toNat).map fun (j : Nat) => D.int ((k : Int) - 1 + (j : Int) * (-1))) = its at hr3 e
  simp [f_law_order, a_law_order, hr, hr3, e, sq]
theorem rI_mem {k : Nat} {x : Int} : x ∈ rI k ↔ 0 ≤ x ∧ x ≤ (k : Int) - 1 := by
  unfold rI
  rw [List.mem_map]
  constructor
  · rintro ⟨i, hi, rfl⟩
    have := List.mem_range.mp hi
    omega
  · rintro ⟨h1, h2⟩
    exact ⟨x.toNat, List.mem_range.mpr (by omega), by omega⟩
theorem rI_nodup (k : Nat) : (rI k).Nodup := by
  unfold rI
  unfold List.Nodup
  rw [List.pairwise_map]
  have h : (List.range k).Pairwise (· ≠ ·) := List.nodup_range
  exact h.imp fun h e => h (by omega)
theorem lac_of_perm {hs : List Int} {k : Nat} (h : hs.Perm (rI (2 * k))) (h1 : 1 ≤ k) (h2 : k ≤ 6) : Lac hs k := by
  refine ⟨by rw [h.length_eq]; simp [rI], h1, h2, fun x hx => ?_, h.nodup_iff.mpr (rI_nodup _)⟩
  have := rI_mem.mp (h.mem_iff.mp hx)
  omega
theorem p_lacing (h0 : Γ.fn "_law_lacing" = some f_law_lacing) (h1 : Γ.fn "_law_choice" = some f_law_choice) (h2 : Γ.fn "_law_order" = some f_law_order) (h3 : Γ.fn "_law_draw" = some f_law_draw) {c : Nat} (hs : SrcAt m c) (k : Nat) (hk : 1 ≤ k) (hk2 : k ≤ 6) :
    ∃ (s : Str) (hs : List Int) (m' : Mem), callN Γ (n + 3) "_law_lacing" [.ref c, .int k] m = .ok (.tup [.str s, .tup (hs.map .int)]) m' ∧ (s = "in" ∨ s = "out") ∧ Lac hs k ∧ Mx c m m' := by
  obtain ⟨y, m1, e1, hy, hx1, _⟩ := p_choice (n := n) h1 h3 hs (.lst [.str "in", .str "out"]) [.str "in", .str "out"] (fun _ _ => rfl) (by decide) (by decide)
  obtain ⟨q, m2, e2, hp, hx2⟩ := p_order (n := n) h2 h3 hx1.2.1 (2 * k) (by omega) (by omega)
  have hcast : ((2 * k : Nat) : Int) = 2 * (k : Int) := by omega
  rw [hcast] at e2
  have hmul : mulOk 2 (k : Int) = true := mulOk_l (by decide) (by decide)
  have hs' : ∃ s : Str, y = .str s ∧ (s = "in" ∨ s = "out") := by
    simp only [List.mem_cons, List.not_mem_nil, or_false] at hy
    rcases hy with rfl | rfl
    · exact ⟨_, rfl, .inl rfl⟩
    · exact ⟨_, rfl, .inr rfl⟩
  obtain ⟨s, rfl, hs'⟩ := hs'
  refine ⟨s, q, m2, ?_, hs', lac_of_perm hp hk hk2, hx1.trans hx2⟩
  rw [callN_eq h0 rfl]
  simp [f_law_lacing, a_law_lacing, e1, e2, hmul]
/-! ### how many ways to end a firm lacing -/
def pat : Nat → Nat → Nat → Nat → Nat → Nat
  | 0, _, _, _, _ => 0
  | t + 1, l, r, s, u => if l + r = 0 then (if u = 1 then 1 else 0) else
      (if 0 < l ∧ (0 ≠ s ∨ u = 1) then pat t (l - 1) r 0 (if 0 ≠ s then 1 else 2) else 0) + (if 0 < r ∧ (1 ≠ s ∨ u = 1) then pat t l (r - 1) 1 (if 1 ≠ s then 1 else 2) else 0)
theorem pat_eq (t l r s u : Nat) : pat (t + 1) l r s u = if l + r = 0 then (if u = 1 then 1 else 0) else
      (if 0 < l ∧ (0 ≠ s ∨ u = 1) then pat t (l - 1) r 0 (if 0 ≠ s then 1 else 2) else 0) + (if 0 < r ∧ (1 ≠ s ∨ u = 1) then pat t l (r - 1) 1 (if 1 ≠ s then 1 else 2) else 0) := by rw [pat]
theorem pat_step : ∀ (t l r s u : Nat), l + r < t → pat (t + 1) l r s u = pat t l r s u
  | 0, _, _, _, _, h => by omega
  | t + 1, l, r, s, u, h => by
    rw [pat_eq (t + 1) l r s u, pat_eq t l r s u]
    by_cases h0 : l + r = 0
    · rw [if_pos h0, if_pos h0]
    · rw [if_neg h0, if_neg h0]
      congr 1
      · split
        · exact pat_step t _ _ _ _ (by omega)
        · rfl
      · split
        · exact pat_step t _ _ _ _ (by omega)
        · rfl
@[simp] theorem forL_nil {f : D → Sl → Mem → R Fl} {s : Sl} {m : Mem} : forL f [] s m = .ok (.nx s) m := rfl
theorem forL_cons {f : D → Sl → Mem → R Fl} {s : Sl} {m : Mem} {d : D} {ds : List D} : forL f (d :: ds) s m = (f d s m).bind fun r m => match r with
    | .nx s => forL f ds s m
    | .bk s => .ok (.nx s) m
    | .rt d => .ok (.rt d) m := rfl
theorem p_patterns (h0 : Γ.fn "_law_patterns" = some f_law_patterns) : ∀ (t l r s u : Nat), l + r < t → s ≤ 1 → callN Γ (n + t) "_law_patterns" [.int l, .int r, .int s, .int u] m = .ok (.int (pat t l r s u)) m
  | 0, _, _, _, _, h, _ => by omega
  | t + 1, l, r, s, u, h, hs => by
    have ih := p_patterns h0 t
    rw [show n + (t + 1) = n + t + 1 by omega, callN_eq h0 rfl, pat_eq]
    have hr : semR [.int 2] = some [.int 0, .int 1] := by rfl
    by_cases hz : l + r = 0
    · have hz' : (l : Int) + r = 0 := by omega
      by_cases hu : u = 1
      · subst hu
        simp [f_law_patterns, a_law_patterns, hz, hz']
      · have hu' : ¬ ((u : Int) = 1) := by omega
        simp [f_law_patterns, a_law_patterns, hz, hz', hu, hu']
    · have hz' : ¬ ((l : Int) + r = 0) := by omega
      rw [if_neg hz]
      have A1 : 0 < l → callN Γ (n + t) "_law_patterns" [.int ((l : Int) - 1), .int r, .int 0, .int 1] m = .ok (.int (pat t (l - 1) r 0 1)) m := fun hl => by
        have := ih (l - 1) r 0 1 (by omega) (by omega)
        rw [show ((l - 1 : Nat) : Int) = (l : Int) - 1 by omega] at this
        exact this
      have A2 : 0 < l → callN Γ (n + t) "_law_patterns" [.int ((l : Int) - 1), .int r, .int 0, .int 2] m = .ok (.int (pat t (l - 1) r 0 2)) m := fun hl => by
        have := ih (l - 1) r 0 2 (by omega) (by omega)
        rw [show ((l - 1 : Nat) : Int) = (l : Int) - 1 by omega] at this
        exact this
      have B1 : 0 < r → callN Γ (n + t) "_law_patterns" [.int l, .int ((r : Int) - 1), .int 1, .int 1] m = .ok (.int (pat t l (r - 1) 1 1)) m := fun hl => by
        have := ih l (r - 1) 1 1 (by omega) (by omega)
        rw [show ((r - 1 : Nat) : Int) = (r : Int) - 1 by omega] at this
        exact this
      have B2 : 0 < r → callN Γ (n + t) "_law_patterns" [.int l, .int ((r : Int) - 1), .int 1, .int 2] m = .ok (.int (pat t l (r - 1) 1 2)) m := fun hl => by
        have := ih l (r - 1) 1 2 (by omega) (by omega)
        rw [show ((r - 1 : Nat) : Int) = (r : Int) - 1 by omega] at this
        exact this
      have hs' : s = 0 ∨ s = 1 := by omega
      by_cases hl : 0 < l <;> by_cases hr0 : 0 < r <;> by_cases hu : u = 1 <;> rcases hs' with rfl | rfl
      all_goals
        have hu' : ((u : Int) = 1) = (u = 1) := propext ⟨fun h => by omega, fun h => by omega⟩
        have hl' : ((0 : Int) < l) = (0 < l) := propext ⟨fun h => by omega, fun h => by omega⟩
        have hr' : ((0 : Int) < r) = (0 < r) := propext ⟨fun h => by omega, fun h => by omega⟩
        simp [f_law_patterns, a_law_patterns, hz, hz', hr, forL_cons, loopF, hl, hr0, hu, hu', hl', hr', A1, A2, B1, B2]
end
end LR

set_option Elab.async false
set_option linter.all false
set_option maxRecDepth 100000
set_option maxHeartbeats 4000000
namespace LR
open PySem PySem.Spec PyProof.Rows L2
/-! ### firm lacings: the sides, the holes -/
theorem noThree_snoc : ∀ (l : List Int) (x : Int), 2 ≤ l.length → noThree (l ++ [x]) = (noThree l && !(decide (l[l.length - 2]? = l[l.length - 1]?) && decide (l[l.length - 1]? = some x)))
  | [], x, h => by simp at h
  | [a], x, h => by simp at h
  | [a, b], x, h => by simp [noThree]
  | a :: b :: c :: l, x, h => by
    have ih := noThree_snoc (b :: c :: l) x (by simp)
    have e : (a :: b :: c :: l) ++ [x] = a :: b :: c :: (l ++ [x]) := rfl
    have e2 : (b :: c :: l) ++ [x] = b :: c :: (l ++ [x]) := rfl
    rw [e2] at ih
    rw [e, noThree, ih, noThree]
    have l1 : (a :: b :: c :: l).length - 2 = (b :: c :: l).length - 2 + 1 := by simp
    have l2 : (a :: b :: c :: l).length - 1 = (b :: c :: l).length - 1 + 1 := by simp
    rw [l1, l2, List.getElem?_cons_succ, List.getElem?_cons_succ, Bool.and_assoc]
structure Gd2 (hs : List Int) (s u : Nat) : Prop where
  len : 1 ≤ hs.length
  three : noThree (sideL hs) = true
  last : (sideL hs)[hs.length - 1]? = some (s : Int)
  one : u = 1 → 2 ≤ hs.length ∧ (sideL hs)[hs.length - 2]? ≠ some (s : Int)
  fst : 2 ≤ hs.length → (sideL hs)[0]? ≠ (sideL hs)[1]?
  two : hs.length = 1 → u = 2
theorem sideL_snoc (hs : List Int) (x : Int) : sideL (hs ++ [x]) = sideL hs ++ [x % 2] := by simp [sideL]
theorem sideL_len (hs : List Int) : (sideL hs).length = hs.length := by simp [sideL]
theorem Gd2.step {hs : List Int} {s u : Nat} (g : Gd2 hs s u) (b : Nat) (hb : b ≠ s ∨ u = 1) (x : Int) (hx : x % 2 = b) : Gd2 (hs ++ [x]) b (if b ≠ s then 1 else 2) := by
  obtain ⟨g1, g2, g3, g4, g5, g6⟩ := g
  have hl := sideL_len hs
  have e0 : (sideL hs ++ [(b : Int)])[hs.length]? = some (b : Int) := by
    rw [List.getElem?_append_right (by omega), hl]
    simp
  have el : ∀ i, i < hs.length → (sideL hs ++ [(b : Int)])[i]? = (sideL hs)[i]? := fun i hi => List.getElem?_append_left (by omega)
  have ln : (hs ++ [x]).length = hs.length + 1 := by simp
  refine ⟨by omega, ?_, ?_, ?_, ?_, ?_⟩
  · rw [sideL_snoc, hx]
    by_cases h2 : 2 ≤ hs.length
    · rw [noThree_snoc _ _ (by omega), g2, hl, g3]
      simp only [Bool.true_and, Bool.not_eq_true', Bool.and_eq_false_iff, decide_eq_false_iff_not]
      rcases hb with hb | hb
      · exact .inr fun h => hb (by have := Option.some.inj h; omega)
      · exact .inl (g4 hb).2
    · have h1 : (sideL hs).length = 1 := by omega
      match sideL hs, h1 with
      | [a], _ => rfl
  · rw [sideL_snoc, hx, ln]
    exact e0
  · intro hu
    refine ⟨by omega, ?_⟩
    rw [sideL_snoc, hx, ln, show hs.length + 1 - 2 = hs.length - 1 by omega, el _ (by omega), g3]
    intro h
    have := Option.some.inj h
    by_cases hbs : b ≠ s
    · omega
    · rw [if_neg hbs] at hu; omega
  · intro _
    rw [sideL_snoc, hx, el 0 (by omega)]
    by_cases h2 : 2 ≤ hs.length
    · rw [el 1 (by omega)]
      exact g5 h2
    · have h1 : hs.length = 1 := by omega
      have hu := g6 h1
      have e1 := e0
      rw [h1] at e1 g3
      rw [e1, g3]
      intro h
      have := Option.some.inj h
      omega
  · intro h
    omega
theorem Gd2.runs {hs : List Int} {s u : Nat} (g : Gd2 hs s u) (hu : u = 1) : runsB hs = true := by
  obtain ⟨g1, g2, g3, g4, g5, g6⟩ := g
  obtain ⟨h2, h3⟩ := g4 hu
  unfold runsB
  rw [g2, g3]
  have h5 := g5 h2
  have h3' : ¬ (some (s : Int) = (sideL hs)[hs.length - 2]?) := fun e => h3 e.symm
  simp [h5, h3']
/-- which holes stand -/
def Hol (A0 A1 : List Int) (i j : Nat) : List Int := (A0.take i).map (fun x => 2 * x) ++ (A1.take j).map (fun x => 2 * x + 1)
theorem Hol.step0 {A0 A1 : List Int} {i j : Nat} {hs : List Int} {x : Int} (h : hs.Perm (Hol A0 A1 i j)) (hx : A0[i]? = some x) : (hs ++ [2 * x]).Perm (Hol A0 A1 (i + 1) j) := by
  unfold Hol at h ⊢
  rw [List.take_add_one, hx]
  simp only [Option.toList_some, List.map_append, List.map_cons, List.map_nil]
  have h1 := h.append_right [2 * x]
  refine h1.trans ?_
  rw [List.append_assoc, List.append_assoc]
  exact (List.perm_append_comm).append_left _
theorem Hol.step1 {A0 A1 : List Int} {i j : Nat} {hs : List Int} {x : Int} (h : hs.Perm (Hol A0 A1 i j)) (hx : A1[j]? = some x) : (hs ++ [2 * x + 1]).Perm (Hol A0 A1 i (j + 1)) := by
  unfold Hol at h ⊢
  rw [List.take_add_one, hx]
  simp only [Option.toList_some, List.map_append, List.map_cons, List.map_nil]
  rw [← List.append_assoc]
  exact h.append_right _
theorem Hol.lac {A0 A1 hs : List Int} {k : Nat} (p0 : A0.Perm (rI k)) (p1 : A1.Perm (rI k)) (h : hs.Perm (Hol A0 A1 k k)) (h1 : 1 ≤ k) (h2 : k ≤ 6) : Lac hs k := by
  have l0 : A0.length = k := by rw [p0.length_eq]; simp [rI]
  have l1 : A1.length = k := by rw [p1.length_eq]; simp [rI]
  unfold Hol at h
  rw [List.take_of_length_le (by omega), List.take_of_length_le (by omega)] at h
  refine ⟨by rw [h.length_eq]; simp [l0, l1]; omega, h1, h2, fun x hx => ?_, ?_⟩
  · have := h.mem_iff.mp hx
    rcases List.mem_append.mp this with hm | hm
    · obtain ⟨y, hy, rfl⟩ := List.mem_map.mp hm
      have := rI_mem.mp (p0.mem_iff.mp hy)
      omega
    · obtain ⟨y, hy, rfl⟩ := List.mem_map.mp hm
      have := rI_mem.mp (p1.mem_iff.mp hy)
      omega
  · rw [h.nodup_iff, List.nodup_append]
    have nd : ∀ {A : List Int} (_ : A.Perm (rI k)) (f : Int → Int), (∀ a b, f a = f b → a = b) → (A.map f).Nodup := fun {A} p f hf => by
      have hA : A.Nodup := p.nodup_iff.mpr (rI_nodup k)
      unfold List.Nodup
      rw [List.pairwise_map]
      exact List.Pairwise.imp (fun h e => h (hf _ _ e)) hA
    refine ⟨nd p0 _ fun a b h => by omega, nd p1 _ fun a b h => by omega, fun a ha b hb e => ?_⟩
    obtain ⟨y, _, rfl⟩ := List.mem_map.mp ha
    obtain ⟨z, _, rfl⟩ := List.mem_map.mp hb
    omega
theorem whL_inv {c : Sl → Mem → R Bool} {f : Sl → Mem → R Fl} (I : Nat → Sl → Mem → Prop) (h0 : ∀ s m, I 0 s m → c s m = .ok false m) (hs : ∀ k s m, I (k + 1) s m → c s m = .ok true m ∧ ∃ s' m', f s m = .ok (.nx s') m' ∧ I k s' m') :
    ∀ (k fuel : Nat) (s : Sl) (m : Mem), k < fuel → I k s m → ∃ s' m', whL c f fuel s m = .ok (.nx s') m' ∧ I 0 s' m'
  | k, 0, s, m, h, _ => by omega
  | 0, fuel + 1, s, m, _, hI => ⟨s, m, by rw [whL, h0 s m hI]; rfl, hI⟩
  | k + 1, fuel + 1, s, m, hk, hI => by
    obtain ⟨e1, s1, m1, e2, hI1⟩ := hs k s m hI
    obtain ⟨s2, m2, e3, hI2⟩ := whL_inv I h0 hs k fuel s1 m1 (by omega) hI1
    refine ⟨s2, m2, ?_, hI2⟩
    rw [whL, e1]
    simp only [x_bind, if_true, e2]
    exact e3
end LR

set_option Elab.async false
set_option linter.all false
set_option maxRecDepth 100000
set_option maxHeartbeats 4000000
namespace LR
open PySem PySem.Spec PyProof.Rows L2
theorem isL_ref {m : Mem} {d : Nat} {l : List D} (h : m[d]? = some (.lst l)) : isL m (.ref d) = true := by
  simp only [isL]
  rw [h]
theorem appD_ref {m : Mem} {d : Nat} {l : List D} {y : D} (h : m[d]? = some (.lst l)) (hl : l.length < lim) : appD (.ref d) y m = .ok .non (m.set d (.lst (l ++ [y]))) := by
  simp only [appD]
  rw [h]
  simp only
  rw [if_pos hl]
@[simp] theorem b_min2 {m : Mem} {i j : Int} : semBi .min [.tup [.int i, .int j]] m = some (.int (if j < i then j else i)) := rfl
theorem z_ixT {l : List D} {i : Int} {m : Mem} : semIx (.tup l) (.int i) m = atI l i := rfl
theorem z_ixL {l : List D} {i : Int} {m : Mem} : semIx (.lst l) (.int i) m = atI l i := rfl
abbrev sNew : S := .seq (.asg (.nm 9) (.tup (.cons (.o2 .sub (.idx (.v 5) (.c (.int 0))) (.o2 .sub (.c (.int 1)) (.v 8))) (.cons (.o2 .sub (.idx (.v 5) (.c (.int 1))) (.v 8)) .nil)))) (.seq (.ite (.and (.o2 .ge (.bi .min (.cons (.v 9) .nil)) (.c (.int 0))) (.or (.o2 .ne (.v 8) (.v 3)) (.o2 .eq (.v 4) (.c (.int 1))))) (.seq (.ite (.o2 .gt (.call "_law_patterns" (.cons (.idx (.v 9) (.c (.int 0))) (.cons (.idx (.v 9) (.c (.int 1))) (.cons (.v 8) (.cons (.ite (.o2 .ne (.v 8) (.v 3)) (.c (.int 1)) (.c (.int 2))) .nil))))) (.c (.int 0))) (.seq (.exp (.app (.v 7) (.v 8))) .nop) .nop) .nop) .nop) .nop)
def ok0 (l r s u : Nat) : Bool := decide (0 < l) && (decide (0 ≠ s) || decide (u = 1)) && decide (0 < pat 13 (l - 1) r 0 (if 0 ≠ s then 1 else 2))
def ok1 (l r s u : Nat) : Bool := decide (0 < r) && (decide (1 ≠ s) || decide (u = 1)) && decide (0 < pat 13 l (r - 1) 1 (if 1 ≠ s then 1 else 2))
section
variable {Γ : Gam} {n : Nat} {m : Mem}
theorem p_new0 (h0 : Γ.fn "_law_patterns" = some f_law_patterns) {dl d7 l r s u : Nat} {q : List D} {a b c f : Option D} {o8 o9 : Option D} (hm : m[dl]? = some (.lst [.int l, .int r])) (hq : m[d7]? = some (.lst q)) (hql : q.length ≤ 5) (hlr : l + r < 13) (hs : s ≤ 1) :
    ∃ x, loopF Γ.con (callN Γ (n + 13)) false [8] sNew (.int 0) [a, b, c, some (.int s), some (.int u), some (.ref dl), f, some (.ref d7), o8, o9] m = .ok (.nx [a, b, c, some (.int s), some (.int u), some (.ref dl), f, some (.ref d7), some (.int 0), x]) (if ok0 l r s u then m.set d7 (.lst (q ++ [.int 0])) else m) := by
  have i0 : semIx (.ref dl) (.int 0) m = some (.int l) := getM (i := 0) hm rfl
  have i1 : semIx (.ref dl) (.int 1) m = some (.int r) := getM (i := 1) hm rfl
  have s7 := isL_ref hq
  have a7 := fun y => appD_ref (y := y) hq (by show _ < 1000000; omega)
  have hu' : ((u : Int) = 1) = (u = 1) := propext ⟨fun h => by omega, fun h => by omega⟩
  have hs' : s = 0 ∨ s = 1 := by omega
  refine ⟨some (.tup [.int ((l : Int) - 1), .int r]), ?_⟩
  by_cases hl : 0 < l
  · have hmin : (0 : Int) ≤ (if (r : Int) < (l : Int) - 1 then (r : Int) else (l : Int) - 1) := by split <;> omega
    have A1 : callN Γ (n + 13) "_law_patterns" [.int ((l : Int) - 1), .int r, .int 0, .int 1] m = .ok (.int (pat 13 (l - 1) r 0 1)) m := by
      have := p_patterns (n := n) (m := m) h0 13 (l - 1) r 0 1 (by omega) (by omega)
      rw [show ((l - 1 : Nat) : Int) = (l : Int) - 1 by omega] at this
      exact this
    have A2 : callN Γ (n + 13) "_law_patterns" [.int ((l : Int) - 1), .int r, .int 0, .int 2] m = .ok (.int (pat 13 (l - 1) r 0 2)) m := by
      have := p_patterns (n := n) (m := m) h0 13 (l - 1) r 0 2 (by omega) (by omega)
      rw [show ((l - 1 : Nat) : Int) = (l : Int) - 1 by omega] at this
      exact this
    have z1 : ((0 : Int) < (pat 13 (l - 1) r 0 1 : Nat)) = (0 < pat 13 (l - 1) r 0 1) := propext ⟨fun h => by omega, fun h => by omega⟩
    have z2 : ((0 : Int) < (pat 13 (l - 1) r 0 2 : Nat)) = (0 < pat 13 (l - 1) r 0 2) := propext ⟨fun h => by omega, fun h => by omega⟩
    rcases hs' with rfl | rfl
    · by_cases hu : u = 1
      · by_cases hp : 0 < pat 13 (l - 1) r 0 2 <;> simp [-z_ix, z_ixT, z_ixL, -Int.natCast_pos, loopF, sNew, i0, i1, hmin, hu, hu', A1, A2, z1, z2, hp, s7, a7, ok0, hl]
      · simp [-z_ix, z_ixT, z_ixL, loopF, sNew, i0, i1, hmin, hu, hu', ok0, hl]
    · by_cases hp : 0 < pat 13 (l - 1) r 0 1 <;> simp [-z_ix, z_ixT, z_ixL, -Int.natCast_pos, loopF, sNew, i0, i1, hmin, A1, A2, z1, z2, hp, s7, a7, ok0, hl]
  · have hl0 : l = 0 := by omega
    subst hl0
    have hmin : ¬ ((0 : Int) ≤ (if (r : Int) < -1 then (r : Int) else -1)) := by split <;> omega
    simp [-z_ix, z_ixT, z_ixL, loopF, sNew, i0, i1, hmin, ok0]
theorem p_new1 (h0 : Γ.fn "_law_patterns" = some f_law_patterns) {dl d7 l r s u : Nat} {q : List D} {a b c f : Option D} {o8 o9 : Option D} (hm : m[dl]? = some (.lst [.int l, .int r])) (hq : m[d7]? = some (.lst q)) (hql : q.length ≤ 5) (hlr : l + r < 13) (hs : s ≤ 1) :
    ∃ x, loopF Γ.con (callN Γ (n + 13)) false [8] sNew (.int 1) [a, b, c, some (.int s), some (.int u), some (.ref dl), f, some (.ref d7), o8, o9] m = .ok (.nx [a, b, c, some (.int s), some (.int u), some (.ref dl), f, some (.ref d7), some (.int 1), x]) (if ok1 l r s u then m.set d7 (.lst (q ++ [.int 1])) else m) := by
  have i0 : semIx (.ref dl) (.int 0) m = some (.int l) := getM (i := 0) hm rfl
  have i1 : semIx (.ref dl) (.int 1) m = some (.int r) := getM (i := 1) hm rfl
  have s7 := isL_ref hq
  have a7 := fun y => appD_ref (y := y) hq (by show _ < 1000000; omega)
  have hu' : ((u : Int) = 1) = (u = 1) := propext ⟨fun h => by omega, fun h => by omega⟩
  have hs' : s = 0 ∨ s = 1 := by omega
  refine ⟨some (.tup [.int l, .int ((r : Int) - 1)]), ?_⟩
  by_cases hl : 0 < r
  · have hmin : (0 : Int) ≤ (if (r : Int) - 1 < (l : Int) then (r : Int) - 1 else (l : Int)) := by split <;> omega
    have A1 : callN Γ (n + 13) "_law_patterns" [.int l, .int ((r : Int) - 1), .int 1, .int 1] m = .ok (.int (pat 13 l (r - 1) 1 1)) m := by
      have := p_patterns (n := n) (m := m) h0 13 l (r - 1) 1 1 (by omega) (by omega)
      rw [show ((r - 1 : Nat) : Int) = (r : Int) - 1 by omega] at this
      exact this
    have A2 : callN Γ (n + 13) "_law_patterns" [.int l, .int ((r : Int) - 1), .int 1, .int 2] m = .ok (.int (pat 13 l (r - 1) 1 2)) m := by
      have := p_patterns (n := n) (m := m) h0 13 l (r - 1) 1 2 (by omega) (by omega)
      rw [show ((r - 1 : Nat) : Int) = (r : Int) - 1 by omega] at this
      exact this
    have z1 : ((0 : Int) < (pat 13 l (r - 1) 1 1 : Nat)) = (0 < pat 13 l (r - 1) 1 1) := propext ⟨fun h => by omega, fun h => by omega⟩
    have z2 : ((0 : Int) < (pat 13 l (r - 1) 1 2 : Nat)) = (0 < pat 13 l (r - 1) 1 2) := propext ⟨fun h => by omega, fun h => by omega⟩
    rcases hs' with rfl | rfl
    · by_cases hp : 0 < pat 13 l (r - 1) 1 1 <;> simp [-z_ix, z_ixT, z_ixL, -Int.natCast_pos, loopF, sNew, i0, i1, hmin, A1, A2, z1, z2, hp, s7, a7, ok1, hl]
    · by_cases hu : u = 1
      · by_cases hp : 0 < pat 13 l (r - 1) 1 2 <;> simp [-z_ix, z_ixT, z_ixL, -Int.natCast_pos, loopF, sNew, i0, i1, hmin, hu, hu', A1, A2, z1, z2, hp, s7, a7, ok1, hl]
      · simp [-z_ix, z_ixT, z_ixL, loopF, sNew, i0, i1, hmin, hu, hu', ok1, hl]
  · have hl0 : r = 0 := by omega
    subst hl0
    have hmin : ¬ ((0 : Int) ≤ (if (-1 : Int) < (l : Int) then (-1 : Int) else (l : Int))) := by split <;> omega
    simp [-z_ix, z_ixT, z_ixL, loopF, sNew, i0, i1, hmin, ok1]
end
end LR

set_option Elab.async false
set_option linter.all false
set_option maxRecDepth 100000
set_option maxHeartbeats 4000000
namespace LR
open PySem PySem.Spec PyProof.Rows L2
theorem ok_some {l r s u : Nat} (h : 0 < pat 13 l r s u) (h0 : 0 < l + r) (h13 : l + r < 13) : ok0 l r s u = true ∨ ok1 l r s u = true := by
  rw [pat_eq, if_neg (by omega)] at h
  by_cases c0 : 0 < l ∧ (0 ≠ s ∨ u = 1)
  · by_cases p0 : 0 < pat 12 (l - 1) r 0 (if 0 ≠ s then 1 else 2)
    · left
      rw [← pat_step 12 (l - 1) r 0 _ (by omega)] at p0
      unfold ok0
      rw [decide_eq_true c0.1, decide_eq_true p0]
      rcases c0.2 with c | c <;> simp [c]
    · rw [if_pos c0] at h
      by_cases c1 : 0 < r ∧ (1 ≠ s ∨ u = 1)
      · right
        rw [if_pos c1] at h
        have p1 : 0 < pat 12 l (r - 1) 1 (if 1 ≠ s then 1 else 2) := by omega
        rw [← pat_step 12 l (r - 1) 1 _ (by omega)] at p1
        unfold ok1
        rw [decide_eq_true c1.1, decide_eq_true p1]
        rcases c1.2 with c | c <;> simp [c]
      · rw [if_neg c1] at h; omega
  · rw [if_neg c0] at h
    by_cases c1 : 0 < r ∧ (1 ≠ s ∨ u = 1)
    · right
      rw [if_pos c1] at h
      have p1 : 0 < pat 12 l (r - 1) 1 (if 1 ≠ s then 1 else 2) := by omega
      rw [← pat_step 12 l (r - 1) 1 _ (by omega)] at p1
      unfold ok1
      rw [decide_eq_true c1.1, decide_eq_true p1]
      rcases c1.2 with c | c <;> simp [c]
    · rw [if_neg c1] at h; omega
section
variable {Γ : Gam} {n : Nat} {m : Mem}
theorem p_somes (h0 : Γ.fn "_law_patterns" = some f_law_patterns) {dl l r s u : Nat} {a b c f : Option D} {o8 o9 : Option D} (hm : m[dl]? = some (.lst [.int l, .int r])) (hlr : l + r < 13) (hs : s ≤ 1) (hp : 0 < pat 13 l r s u) (hpos : 0 < l + r) :
    ∃ (x : Option D) (m3 : Mem) (q : List D), forL (loopF Γ.con (callN Γ (n + 13)) false [8] sNew) [.int 0, .int 1] [a, b, c, some (.int s), some (.int u), some (.ref dl), f, some (.ref m.length), o8, o9] (m ++ [.lst []]) = .ok (.nx [a, b, c, some (.int s), some (.int u), some (.ref dl), f, some (.ref m.length), some (.int 1), x]) m3 ∧
      m3.length = m.length + 1 ∧ m3[m.length]? = some (.lst q) ∧ (∀ i, i < m.length → m3[i]? = m[i]?) ∧ (∀ y ∈ q, (y = .int 0 ∧ ok0 l r s u = true) ∨ (y = .int 1 ∧ ok1 l r s u = true)) ∧ 1 ≤ q.length ∧ q.length ≤ 2 := by
  have hdl : dl < m.length := (List.getElem?_eq_some_iff.mp hm).1
  have hm1 : (m ++ [Cell.lst []])[dl]? = some (.lst [.int l, .int r]) := by rw [List.getElem?_append_left hdl]; exact hm
  have hq1 : (m ++ [Cell.lst []])[m.length]? = some (.lst []) := by rw [List.getElem?_append_right (Nat.le_refl _)]; simp
  obtain ⟨x1, e1⟩ := p_new0 (n := n) h0 (a := a) (b := b) (c := c) (f := f) (o8 := o8) (o9 := o9) (s := s) (u := u) hm1 hq1 (by simp) hlr hs
  have key : ∃ (m2 : Mem) (q : List D), (if ok0 l r s u = true then (m ++ [Cell.lst []]).set m.length (.lst ([] ++ [.int 0])) else m ++ [Cell.lst []]) = m2 ∧ m2.length = m.length + 1 ∧ m2[m.length]? = some (.lst q) ∧ (∀ i, i < m.length → m2[i]? = m[i]?) ∧ (∀ y ∈ q, y = .int 0 ∧ ok0 l r s u = true) ∧ q.length ≤ 1 ∧ (ok0 l r s u = true → 1 ≤ q.length) := by
    cases h : ok0 l r s u with
    | true =>
      refine ⟨_, [.int 0], rfl, by simp, by simp, fun i hi => ?_, by simp, by simp, by simp⟩
      rw [if_pos rfl, List.getElem?_set_ne (by omega), List.getElem?_append_left hi]
    | false =>
      refine ⟨_, [], rfl, by simp, by simp, fun i hi => ?_, by simp, by simp, by simp⟩
      rw [if_neg Bool.false_ne_true, List.getElem?_append_left hi]
  obtain ⟨m2, q, em, k1, k2, k3, k4, k5, k6⟩ := key
  rw [em] at e1
  have hm2 : m2[dl]? = some (.lst [.int l, .int r]) := by rw [k3 dl hdl]; exact hm
  obtain ⟨x2, e2⟩ := p_new1 (n := n) h0 (a := a) (b := b) (c := c) (f := f) (o8 := some (.int 0)) (o9 := x1) (s := s) (u := u) hm2 k2 (by omega) hlr hs
  refine ⟨x2, if ok1 l r s u = true then m2.set m.length (.lst (q ++ [.int 1])) else m2, if ok1 l r s u = true then q ++ [.int 1] else q, ?_, ?_, ?_, ?_, ?_, ?_, ?_⟩
  · rw [forL_cons, e1]
    simp only [x_bind]
    rw [forL_cons, e2]
    rfl
  · split <;> simp [k1]
  · split
    · rw [List.getElem?_set_self (by omega)]
    · exact k2
  · intro i hi
    split
    · rw [List.getElem?_set_ne (by omega)]
      exact k3 i hi
    · exact k3 i hi
  · intro y hy
    split at hy
    · rename_i h1
      rcases List.mem_append.mp hy with hy | hy
      · exact .inl (k4 y hy)
      · simp at hy
        exact .inr ⟨hy, h1⟩
    · exact .inl (k4 y hy)
  · rcases ok_some hp hpos hlr with h | h
    · have := k6 h
      split
      · simp
      · exact this
    · rw [if_pos h]
      simp
  · split
    · simp
      omega
    · omega
structure FS (c k dl dh : Nat) (A0 A1 : List Int) (m0 : Mem) (l r s u : Nat) (hs : List Int) (sl : Sl) (m : Mem) : Prop where
  sl : ∃ o7 o8 o9, sl = [some (.ref c), some (.int k), some (.lst [.tup (A0.map .int), .tup (A1.map .int)]), some (.int s), some (.int u), some (.ref dl), some (.ref dh), o7, o8, o9]
  ml : m[dl]? = some (.lst [.int l, .int r])
  mh : m[dh]? = some (.lst (hs.map .int))
  mx : Mx c m0 m
  dl0 : m0.length ≤ dl
  dh0 : m0.length ≤ dh
  ne : dl ≠ dh
  s1 : s ≤ 1
  lk : l ≤ k
  rk : r ≤ k
  tot : hs.length + l + r = 2 * k
  pos : 0 < pat 13 l r s u
  g : Gd2 hs s u
  hol : hs.Perm (Hol A0 A1 (k - l) (k - r))
abbrev sStep : S := .seq (.asg (.nm 7) (.nl true (.disp (.nil)))) (.seq (.loop false [8] (.rng (.cons (.c (.int 2)) .nil)) sNew) (.seq (.asg (.nm 8) (.call "_law_choice" (.cons (.v 0) (.cons (.v 7) .nil)))) (.seq (.asg (.nm 4) (.ite (.o2 .ne (.v 8) (.v 3)) (.c (.int 1)) (.c (.int 2)))) (.seq (.asg (.nm 3) (.v 8)) (.seq (.asg (.ix (.v 5) (.v 3)) (.o2 .sub (.idx (.v 5) (.v 3)) (.c (.int 1)))) (.seq (.exp (.app (.v 6) (.o2 .add (.o2 .mul (.c (.int 2)) (.idx (.idx (.v 2) (.v 3)) (.o2 .sub (.o2 .sub (.v 1) (.c (.int 1))) (.idx (.v 5) (.v 3))))) (.v 3)))) .nop))))))
theorem p_step (h0 : Γ.fn "_law_patterns" = some f_law_patterns) (h1 : Γ.fn "_law_choice" = some f_law_choice) (h2 : Γ.fn "_law_draw" = some f_law_draw) {c k dl dh : Nat} {A0 A1 : List Int} {m0 : Mem} (hc : c < m0.length) (hk : k ≤ 6) (hA0 : A0.length = k) (hA1 : A1.length = k) {l r s u : Nat} {hs : List Int} {sl : Sl} (F : FS c k dl dh A0 A1 m0 l r s u hs sl m) (hpos : 0 < l + r) :
    ∃ (sl' : Sl) (m' : Mem) (l' r' s' u' : Nat) (hs' : List Int), evS Γ.con (callN Γ (n + 13)) sStep sl m = .ok (.nx sl') m' ∧ FS c k dl dh A0 A1 m0 l' r' s' u' hs' sl' m' ∧ l' + r' + 1 = l + r := by
  obtain ⟨⟨o7, o8, o9, rfl⟩, ml, mh, mx, dl0, dh0, ne, s1, lk, rk, tot, pos, g, hol⟩ := F
  have hdl : dl < m.length := (List.getElem?_eq_some_iff.mp ml).1
  have hdh : dh < m.length := (List.getElem?_eq_some_iff.mp mh).1
  have hcm : c < m.length := mx.2.1.lt
  obtain ⟨x, m3, q, e1, k1, k2, k3, k4, k5, k6⟩ := p_somes (n := n) h0 (a := some (.ref c)) (b := some (.int k)) (c := some (.lst [.tup (A0.map .int), .tup (A1.map .int)])) (f := some (.ref dh)) (o8 := o8) (o9 := o9) ml (by omega) s1 pos hpos
  have mx3 : Mx c m m3 := by
    obtain ⟨a, b, e, h⟩ := mx.2.1
    exact ⟨by omega, ⟨a, b, by rw [k3 c hcm]; exact e, h⟩, fun i hi _ => k3 i hi⟩
  obtain ⟨y, m4, e2, hy, mx4, l4⟩ := p_choice (n := n + 11) h1 h2 mx3.2.1 (.ref m.length) q (fun m' hx => seq_ref (by rw [hx.2.2 _ (by omega) (by omega)]; exact k2)) k5 (by omega)
  have ml4 : m4[dl]? = some (.lst [.int l, .int r]) := by rw [mx4.2.2 dl (by omega) (by omega), k3 dl hdl]; exact ml
  have mh4 : m4[dh]? = some (.lst (hs.map .int)) := by rw [mx4.2.2 dh (by omega) (by omega), k3 dh hdh]; exact mh
  have hr2 : semR [.int 2] = some [.int 0, .int 1] := by rfl
  have hmul : ∀ (i : Int) (m : Mem), sem2 .mul (.int 2) (.int i) m = some (.int (2 * i)) := fun i m => z_mulL (by decide) (by decide)
  have hlen4 : dl < m4.length ∧ dh < m4.length := by omega
  have fin : ∀ (v w : Cell), Mx c m0 ((m4.set dl v).set dh w) := fun v w => by
    have hx := (mx.trans mx3).trans mx4
    obtain ⟨a, b, e, h⟩ := mx4.2.1
    refine ⟨by rw [List.length_set, List.length_set]; exact hx.1, ⟨a, b, by rw [List.getElem?_set_ne (by omega), List.getElem?_set_ne (by omega)]; exact e, h⟩, fun i hi hic => ?_⟩
    rw [List.getElem?_set_ne (by omega), List.getElem?_set_ne (by omega)]
    exact hx.2.2 i hi hic
  rcases k4 y hy with ⟨rfl, hok⟩ | ⟨rfl, hok⟩
  · -- the even side
    unfold ok0 at hok
    simp only [Bool.and_eq_true, Bool.or_eq_true, decide_eq_true_eq] at hok
    obtain ⟨⟨hl, hb⟩, hp⟩ := hok
    have i0 : semIx (.ref dl) (.int 0) m4 = some (.int l) := getM (i := 0) ml4 rfl
    have s0 := setD_ref (k := 0) (j := 0) (y := .int ((l : Int) - 1)) ml4 rfl
    simp only [List.set_cons_zero] at s0
    have ml5 : (m4.set dl (.lst [.int ((l : Int) - 1), .int r]))[dl]? = some (.lst [.int ((l : Int) - 1), .int r]) := List.getElem?_set_self hlen4.1
    have i1 : semIx (.ref dl) (.int 0) (m4.set dl (.lst [.int ((l : Int) - 1), .int r])) = some (.int ((l : Int) - 1)) := getM (i := 0) ml5 rfl
    have mh5 : (m4.set dl (.lst [.int ((l : Int) - 1), .int r]))[dh]? = some (.lst (hs.map .int)) := by rw [List.getElem?_set_ne ne]; exact mh4
    have hx : A0[k - l]? = some (A0[k - l]'(by omega)) := List.getElem?_eq_getElem (by omega)
    generalize A0[k - l]'(by omega) = x0 at hx
    have ha : atI (A0.map D.int) ((k : Int) - 1 - ((l : Int) - 1)) = some (.int x0) := by
      have := at_nat (l := A0.map D.int) (k - l)
      rw [List.getElem?_map, hx] at this
      rw [show (k : Int) - 1 - ((l : Int) - 1) = ((k - l : Nat) : Int) by omega]
      exact this
    have iL := isL_ref mh5
    have ap := appD_ref (y := .int (2 * x0)) mh5 (by rw [List.length_map]; show _ < 1000000; omega)
    have hss : ((0 : Int) = s) = (0 = s) := propext ⟨fun h => by omega, fun h => by omega⟩
    refine ⟨[some (.ref c), some (.int k), some (.lst [.tup (A0.map .int), .tup (A1.map .int)]), some (.int 0), some (.int ((if 0 ≠ s then 1 else 2 : Nat) : Int)), some (.ref dl), some (.ref dh), some (.ref m.length), some (.int 0), x], (m4.set dl (.lst [.int ((l : Int) - 1), .int r])).set dh (.lst (hs.map .int ++ [.int (2 * x0)])), l - 1, r, 0, if 0 ≠ s then 1 else 2, hs ++ [2 * x0], ?_, ?_, by omega⟩
    · rcases Decidable.em (0 = s) with rfl | h0s
      · push_cast at e1
        simp [-z_ix, z_ixT, z_ixL, -z_mul, sStep, hr2, e1, e2, i0, s0, i1, ha, hmul, iL, ap]
      · simp [-z_ix, z_ixT, z_ixL, -z_mul, sStep, hr2, e1, e2, i0, s0, i1, ha, hmul, iL, ap, hss, h0s]
    · refine ⟨⟨_, _, _, rfl⟩, ?_, ?_, fin _ _, dl0, dh0, ne, by omega, by omega, rk, by simp; omega, hp, ?_, ?_⟩
      · rw [List.getElem?_set_ne (Ne.symm ne), ml5, show ((l - 1 : Nat) : Int) = (l : Int) - 1 by omega]
      · rw [List.getElem?_set_self (by rw [List.length_set]; exact hlen4.2), List.map_append]
        rfl
      · exact g.step 0 hb (2 * x0) (by omega)
      · have := Hol.step0 hol hx
        rw [show k - l + 1 = k - (l - 1) by omega] at this
        exact this
  · -- the odd side
    unfold ok1 at hok
    simp only [Bool.and_eq_true, Bool.or_eq_true, decide_eq_true_eq] at hok
    obtain ⟨⟨hl, hb⟩, hp⟩ := hok
    have i0 : semIx (.ref dl) (.int 1) m4 = some (.int r) := getM (i := 1) ml4 rfl
    have s0 := setD_ref (k := 1) (j := 1) (y := .int ((r : Int) - 1)) ml4 rfl
    simp only [List.set_cons_zero, List.set_cons_succ] at s0
    have ml5 : (m4.set dl (.lst [.int l, .int ((r : Int) - 1)]))[dl]? = some (.lst [.int l, .int ((r : Int) - 1)]) := List.getElem?_set_self hlen4.1
    have i1 : semIx (.ref dl) (.int 1) (m4.set dl (.lst [.int l, .int ((r : Int) - 1)])) = some (.int ((r : Int) - 1)) := getM (i := 1) ml5 rfl
    have mh5 : (m4.set dl (.lst [.int l, .int ((r : Int) - 1)]))[dh]? = some (.lst (hs.map .int)) := by rw [List.getElem?_set_ne ne]; exact mh4
    have hx : A1[k - r]? = some (A1[k - r]'(by omega)) := List.getElem?_eq_getElem (by omega)
    generalize A1[k - r]'(by omega) = x0 at hx
    have ha : atI (A1.map D.int) ((k : Int) - 1 - ((r : Int) - 1)) = some (.int x0) := by
      have := at_nat (l := A1.map D.int) (k - r)
      rw [List.getElem?_map, hx] at this
      rw [show (k : Int) - 1 - ((r : Int) - 1) = ((k - r : Nat) : Int) by omega]
      exact this
    have iL := isL_ref mh5
    have ap := appD_ref (y := .int (2 * x0 + 1)) mh5 (by rw [List.length_map]; show _ < 1000000; omega)
    have hss : ((1 : Int) = s) = (1 = s) := propext ⟨fun h => by omega, fun h => by omega⟩
    refine ⟨[some (.ref c), some (.int k), some (.lst [.tup (A0.map .int), .tup (A1.map .int)]), some (.int 1), some (.int ((if 1 ≠ s then 1 else 2 : Nat) : Int)), some (.ref dl), some (.ref dh), some (.ref m.length), some (.int 1), x], (m4.set dl (.lst [.int l, .int ((r : Int) - 1)])).set dh (.lst (hs.map .int ++ [.int (2 * x0 + 1)])), l, r - 1, 1, if 1 ≠ s then 1 else 2, hs ++ [2 * x0 + 1], ?_, ?_, by omega⟩
    · rcases Decidable.em (1 = s) with rfl | h0s
      · push_cast at e1
        simp [-z_ix, z_ixT, z_ixL, -z_mul, sStep, hr2, e1, e2, i0, s0, i1, ha, hmul, iL, ap]
      · simp [-z_ix, z_ixT, z_ixL, -z_mul, sStep, hr2, e1, e2, i0, s0, i1, ha, hmul, iL, ap, hss, h0s]
    · refine ⟨⟨_, _, _, rfl⟩, ?_, ?_, fin _ _, dl0, dh0, ne, by omega, lk, by omega, by simp; omega, hp, ?_, ?_⟩
      · rw [List.getElem?_set_ne (Ne.symm ne), ml5, show ((r - 1 : Nat) : Int) = (r : Int) - 1 by omega]
      · rw [List.getElem?_set_self (by rw [List.length_set]; exact hlen4.2), List.map_append]
        rfl
      · exact g.step 1 hb (2 * x0 + 1) (by omega)
      · have := Hol.step1 hol hx
        rw [show k - r + 1 = k - (r - 1) by omega] at this
        exact this
end
end LR

set_option Elab.async false
set_option linter.all false
set_option maxRecDepth 100000
set_option maxHeartbeats 4000000
namespace LR
open PySem PySem.Spec PyProof.Rows L2
theorem pat_start : ∀ k, 1 ≤ k → k ≤ 6 → 0 < pat 13 (k - 1) k 0 2 ∧ 0 < pat 13 k (k - 1) 1 2 := by
  intro k h1 h2
  have : k = 1 ∨ k = 2 ∨ k = 3 ∨ k = 4 ∨ k = 5 ∨ k = 6 := by omega
  rcases this with rfl | rfl | rfl | rfl | rfl | rfl <;> decide +kernel
section
variable {Γ : Gam} {n : Nat} {m : Mem}
theorem p_while (h0 : Γ.fn "_law_patterns" = some f_law_patterns) (h1 : Γ.fn "_law_choice" = some f_law_choice) (h2 : Γ.fn "_law_draw" = some f_law_draw) {c k dl dh : Nat} {A0 A1 : List Int} {m0 : Mem} (hc : c < m0.length) (hk : k ≤ 6) (p0 : A0.Perm (rI k)) (p1 : A1.Perm (rI k)) (hk1 : 1 ≤ k) {l r s u : Nat} {hs : List Int} {sl : Sl} (F : FS c k dl dh A0 A1 m0 l r s u hs sl m) :
    ∃ (hs' : List Int) (o0 o1 o2 o3 o4 o5 o6 : Option D) (m' : Mem), whL (fun s m => tst (ev Γ.con (callN Γ (n + 13)) (.o2 .lt (.bi .len (.cons (.v 6) .nil)) (.o2 .mul (.c (.int 2)) (.v 1))) s m)) (fun s m => evS Γ.con (callN Γ (n + 13)) sStep s m) lim sl m = .ok (.nx [some (.ref c), some (.int k), o0, o1, o2, o3, some (.ref dh), o4, o5, o6]) m' ∧
      m'[dh]? = some (.lst (hs'.map .int)) ∧ Lac hs' k ∧ runsB hs' = true ∧ Mx c m0 m' := by
  have hA0 : A0.length = k := by rw [p0.length_eq]; simp [rI]
  have hA1 : A1.length = k := by rw [p1.length_eq]; simp [rI]
  have hmul : ∀ (i : Int) (m : Mem), sem2 .mul (.int 2) (.int i) m = some (.int (2 * i)) := fun i m => z_mulL (by decide) (by decide)
  have cond : ∀ (l r s u : Nat) (hs : List Int) (sl : Sl) (m : Mem), FS c k dl dh A0 A1 m0 l r s u hs sl m → tst (ev Γ.con (callN Γ (n + 13)) (.o2 .lt (.bi .len (.cons (.v 6) .nil)) (.o2 .mul (.c (.int 2)) (.v 1))) sl m) = .ok (decide (0 < l + r)) m := fun l r s u hs sl m F => by
    obtain ⟨⟨o7, o8, o9, rfl⟩, ml, mh, mx, _, _, _, _, _, _, tot, _, _, _⟩ := F
    have sq := seq_ref mh
    have e : ((hs.length : Int) < 2 * (k : Int)) = (0 < l + r) := propext ⟨fun h => by omega, fun h => by omega⟩
    simp [-z_mul, sq, hmul, e]
  obtain ⟨s', m', e, l', r', s2, u2, hs2, F2, ht⟩ := whL_inv (c := fun s m => tst (ev Γ.con (callN Γ (n + 13)) (.o2 .lt (.bi .len (.cons (.v 6) .nil)) (.o2 .mul (.c (.int 2)) (.v 1))) s m)) (f := fun s m => evS Γ.con (callN Γ (n + 13)) sStep s m)
    (fun t sl m => ∃ (l r s u : Nat) (hs : List Int), FS c k dl dh A0 A1 m0 l r s u hs sl m ∧ l + r = t)
    (fun sl m ⟨l, r, s, u, hs, F, ht⟩ => by
      have := cond l r s u hs sl m F
      rw [this, show decide (0 < l + r) = false from decide_eq_false (by omega)])
    (fun t sl m ⟨l, r, s, u, hs, F, ht⟩ => by
      refine ⟨?_, ?_⟩
      · have := cond l r s u hs sl m F
        rw [this, show decide (0 < l + r) = true from decide_eq_true (by omega)]
      · obtain ⟨sl', m', l', r', s', u', hs', e, F', ht'⟩ := p_step (n := n) h0 h1 h2 hc hk hA0 hA1 F (by omega)
        exact ⟨sl', m', e, l', r', s', u', hs', F', by omega⟩)
    (l + r) lim sl m (by show _ < 1000000; have := F.lk; have := F.rk; omega) ⟨l, r, s, u, hs, F, rfl⟩
  obtain ⟨⟨o7, o8, o9, rfl⟩, ml, mh, mx, _, _, _, _, _, _, tot, pos, g, hol⟩ := F2
  have hl0 : l' = 0 := by omega
  have hr0 : r' = 0 := by omega
  subst hl0 hr0
  rw [pat_eq, if_pos rfl] at pos
  have hu : u2 = 1 := by
    by_cases h : u2 = 1
    · exact h
    · rw [if_neg h] at pos; omega
  exact ⟨hs2, _, _, _, _, _, _, _, m', e, mh, Hol.lac p0 p1 hol hk1 hk, g.runs hu, mx⟩
theorem p_firm (hf : Γ.fn "_law_firm" = some f_law_firm) (ho : Γ.fn "_law_order" = some f_law_order) (h0 : Γ.fn "_law_patterns" = some f_law_patterns) (h1 : Γ.fn "_law_choice" = some f_law_choice) (h2 : Γ.fn "_law_draw" = some f_law_draw) {c : Nat} (hs : SrcAt m c) (k : Nat) (hk : 1 ≤ k) (hk2 : k ≤ 6) :
    ∃ (s : Str) (hs : List Int) (m' : Mem), callN Γ (n + 14) "_law_firm" [.ref c, .int k] m = .ok (.tup [.str s, .tup (hs.map .int)]) m' ∧ (s = "in" ∨ s = "out") ∧ Lac hs k ∧ runsB hs = true ∧ Mx c m m' := by
  obtain ⟨A0, m1, e1, p0, x1⟩ := p_order (n := n + 11) ho h2 hs k hk (by omega)
  obtain ⟨A1, m2, e2, p1, x2⟩ := p_order (n := n + 11) ho h2 x1.2.1 k hk (by omega)
  obtain ⟨side, m3, e3, r1, r2, x3, _⟩ := p_draw (n := n + 12) h2 x2.2.1 2 (by decide) (by decide)
  have hA0 : A0.length = k := by rw [p0.length_eq]; simp [rI]
  have hA1 : A1.length = k := by rw [p1.length_eq]; simp [rI]
  have x13 := (x1.trans x2).trans x3
  have hmul : ∀ (i : Int) (m : Mem), sem2 .mul (.int 2) (.int i) m = some (.int (2 * i)) := fun i m => z_mulL (by decide) (by decide)
  have a0 : A0[0]? = some (A0[0]'(by omega)) := List.getElem?_eq_getElem (by omega)
  have a1 : A1[0]? = some (A1[0]'(by omega)) := List.getElem?_eq_getElem (by omega)
  generalize A0[0]'(by omega) = y0 at a0
  generalize A1[0]'(by omega) = y1 at a1
  have g0 : atI (A0.map D.int) 0 = some (.int y0) := by
    have := at_nat (l := A0.map D.int) 0
    rw [List.getElem?_map, a0] at this
    exact this
  have g1 : atI (A1.map D.int) 0 = some (.int y1) := by
    have := at_nat (l := A1.map D.int) 0
    rw [List.getElem?_map, a1] at this
    exact this
  obtain ⟨q0, q1⟩ := pat_start k hk hk2
  have main : ∀ (h : Int) (v : List D) (l r s : Nat), side = s → s ≤ 1 → l ≤ k → r ≤ k → 1 + l + r = 2 * k → v = [.int l, .int r] → 0 < pat 13 l r s 2 → h % 2 = s → [h].Perm (Hol A0 A1 (k - l) (k - r)) → ∀ (m6 : Mem), m6 = (m3 ++ [Cell.lst [.int k, .int k], .lst [.int h]]).set m3.length (.lst v) →
      ∃ (hs' : List Int) (o0 o1 o2 o3 o4 o5 o6 : Option D) (m' : Mem), whL (fun s m => tst (ev Γ.con (callN Γ (n + 13)) (.o2 .lt (.bi .len (.cons (.v 6) .nil)) (.o2 .mul (.c (.int 2)) (.v 1))) s m)) (fun s m => evS Γ.con (callN Γ (n + 13)) sStep s m) lim [some (.ref c), some (.int k), some (.lst [.tup (A0.map .int), .tup (A1.map .int)]), some (.int s), some (.int 2), some (.ref m3.length), some (.ref (m3.length + 1)), none, none, none] m6 = .ok (.nx [some (.ref c), some (.int k), o0, o1, o2, o3, some (.ref (m3.length + 1)), o4, o5, o6]) m' ∧
      m'[m3.length + 1]? = some (.lst (hs'.map .int)) ∧ Lac hs' k ∧ runsB hs' = true ∧ Mx c m m' := by
    intro h v l r s hside hs1 hl hr htot hv hp hh hol m6 hm6
    have hcl : c < m.length := hs.lt
    have hcl3 : c < m3.length := by have := x13.1; omega
    refine p_while (n := n) h0 h1 h2 hs.lt hk2 p0 p1 hk (l := l) (r := r) (s := s) (u := 2) (hs := [h]) ⟨⟨none, none, none, rfl⟩, ?_, ?_, ?_, x13.1, by have := x13.1; omega, by omega, hs1, hl, hr, by simp; omega, hp, ?_, hol⟩
    · rw [hm6, hv, List.getElem?_set_self (by simp)]
    · rw [hm6, List.getElem?_set_ne (by omega), List.getElem?_append_right (by omega)]
      simp
    · obtain ⟨a, b, e, h'⟩ := x3.2.1
      refine ⟨by rw [hm6]; simp; have := x13.1; omega, ⟨a, b, by rw [hm6, List.getElem?_set_ne (by omega), List.getElem?_append_left hcl3]; exact e, h'⟩, fun i hi hic => ?_⟩
      have hi3 : i < m3.length := by have := x13.1; omega
      rw [hm6, List.getElem?_set_ne (by omega), List.getElem?_append_left hi3]
      exact x13.2.2 i hi hic
    · exact ⟨by simp, rfl, by simp [sideL, hh], fun h => by omega, fun h => by simp at h, fun _ => rfl⟩
  have hside : side = 0 ∨ side = 1 := by omega
  have fin : ∀ (hs' : List Int) (m' : Mem), m'[m3.length + 1]? = some (.lst (hs'.map .int)) → Mx c m m' → ∃ (s : Str) (m'' : Mem), callN Γ (n + 13) "_law_choice" [.ref c, .lst [.str "in", .str "out"]] m' = .ok (.str s) m'' ∧ (s = "in" ∨ s = "out") ∧ Mx c m m'' ∧ (D.ref (m3.length + 1)).seq m'' = some (hs'.map .int) := by
    intro hs' m' h hx
    obtain ⟨y, m'', e, hy, hx2, _⟩ := p_choice (n := n + 11) h1 h2 hx.2.1 (.lst [.str "in", .str "out"]) [.str "in", .str "out"] (fun _ _ => rfl) (by decide) (by decide)
    have hlt : m3.length + 1 < m'.length := (List.getElem?_eq_some_iff.mp h).1
    have hcl : c < m.length := hs.lt
    have sq : (D.ref (m3.length + 1)).seq m'' = some (hs'.map .int) := seq_ref (by rw [hx2.2.2 _ hlt (by have := x13.1; omega)]; exact h)
    simp only [List.mem_cons, List.not_mem_nil, or_false] at hy
    rcases hy with rfl | rfl
    · exact ⟨_, m'', e, .inl rfl, hx.trans hx2, sq⟩
    · exact ⟨_, m'', e, .inr rfl, hx.trans hx2, sq⟩
  rw [callN_eq hf rfl]
  rcases hside with rfl | rfl
  · obtain ⟨hs', o0, o1, o2, o3, o4, o5, o6, m', ew, mh, hlac, hrun, hx⟩ := main (2 * y0 + 0) [.int ((k : Int) - 1), .int k] (k - 1) k 0 rfl (by omega) (by omega) (by omega) (by omega) (by rw [show ((k - 1 : Nat) : Int) = (k : Int) - 1 by omega]) q0 (by omega) (by
        unfold Hol
        rw [show k - (k - 1) = 0 + 1 by omega, Nat.sub_self, List.take_add_one, a0]
        simp) _ rfl
    obtain ⟨s, m'', e4, hsx, hx2, sq⟩ := fin hs' m' mh hx
    have s0 := setD_ref (l := [.int k, .int k]) (m := m3 ++ [Cell.lst [.int k, .int k], .lst [.int (2 * y0 + 0)]]) (c := m3.length) (k := 0) (j := 0) (y := .int ((k : Int) - 1)) (by rw [List.getElem?_append_right (Nat.le_refl _)]; simp) rfl
    simp only [List.set_cons_zero] at s0
    generalize (m3 ++ [Cell.lst [.int k, .int k], .lst [.int (2 * y0 + 0)]]).set m3.length (.lst [.int ((k : Int) - 1), .int k]) = m6 at s0 ew
    refine ⟨s, hs', m'', ?_, hsx, hlac, hrun, hx2⟩
    simp only [Int.add_zero] at s0
    rw [← y_whl (G := Γ.con) (cl := callN Γ (n + 13))] at ew
    push_cast at ew
    simp [-y_whl, -z_ix, z_ixT, z_ixL, -z_mul, f_law_firm, a_law_firm, e1, e2, e3, g0, hmul, s0, ew, e4, sq]
  · obtain ⟨hs', o0, o1, o2, o3, o4, o5, o6, m', ew, mh, hlac, hrun, hx⟩ := main (2 * y1 + 1) [.int k, .int ((k : Int) - 1)] k (k - 1) 1 rfl (by omega) (by omega) (by omega) (by omega) (by rw [show ((k - 1 : Nat) : Int) = (k : Int) - 1 by omega]) q1 (by omega) (by
        unfold Hol
        rw [show k - (k - 1) = 0 + 1 by omega, Nat.sub_self, List.take_add_one, a1]
        simp) _ rfl
    obtain ⟨s, m'', e4, hsx, hx2, sq⟩ := fin hs' m' mh hx
    have s0 := setD_ref (l := [.int k, .int k]) (m := m3 ++ [Cell.lst [.int k, .int k], .lst [.int (2 * y1 + 1)]]) (c := m3.length) (k := 1) (j := 1) (y := .int ((k : Int) - 1)) (by rw [List.getElem?_append_right (Nat.le_refl _)]; simp) rfl
    simp only [List.set_cons_zero, List.set_cons_succ] at s0
    generalize (m3 ++ [Cell.lst [.int k, .int k], .lst [.int (2 * y1 + 1)]]).set m3.length (.lst [.int k, .int ((k : Int) - 1)]) = m6 at s0 ew
    refine ⟨s, hs', m'', ?_, hsx, hlac, hrun, hx2⟩
    rw [← y_whl (G := Γ.con) (cl := callN Γ (n + 13))] at ew
    push_cast at ew
    simp [-y_whl, -z_ix, z_ixT, z_ixL, -z_mul, f_law_firm, a_law_firm, e1, e2, e3, g1, hmul, s0, ew, e4, sq]
end
end LR

set_option Elab.async false
set_option linter.all false
set_option maxRecDepth 100000
set_option maxHeartbeats 4000000
namespace LR
open PySem PySem.Spec PyProof.Rows L2
/-! ### what holds, by the runs of the sides -/
theorem mem_prs : ∀ {l : List Int} {p : Int × Int}, p ∈ prs l ↔ ∃ i : Nat, l[i]? = some p.1 ∧ l[i + 1]? = some p.2
  | [], p => by simp [prs]
  | [a], p => by
    simp only [prs, List.not_mem_nil, false_iff]
    rintro ⟨i, h1, h2⟩
    simp at h2
  | a :: b :: l, p => by
    rw [prs, List.mem_cons, mem_prs]
    constructor
    · rintro (rfl | ⟨i, h1, h2⟩)
      · exact ⟨0, rfl, rfl⟩
      · exact ⟨i + 1, by simpa using h1, by simpa using h2⟩
    · rintro ⟨i, h1, h2⟩
      cases i with
      | zero =>
        left
        simp at h1 h2
        rw [h1, h2]
      | succ i => exact .inr ⟨i, by simpa using h1, by simpa using h2⟩
theorem mem_tied {h : Int} : ∀ (l : List (Int × Int)) (t : List Int), h ∈ l.foldl tiedG t ↔ h ∈ t ∨ ∃ p ∈ l, acr p = true ∧ (h = p.1 ∨ h = p.2)
  | [], t => by simp
  | p :: l, t => by
    rw [List.foldl_cons, mem_tied l]
    unfold tiedG
    cases hp : acr p with
    | true =>
      simp only [if_true, List.mem_append, List.mem_cons, List.not_mem_nil, or_false]
      constructor
      · rintro ((h1 | h1) | ⟨q, hq, h1⟩)
        · exact .inl h1
        · exact .inr ⟨p, .inl rfl, hp, h1⟩
        · exact .inr ⟨q, .inr hq, h1⟩
      · rintro (h1 | ⟨q, rfl | hq, h1⟩)
        · exact .inl (.inl h1)
        · exact .inl (.inr h1.2)
        · exact .inr ⟨q, hq, h1⟩
    | false =>
      simp only [Bool.false_eq_true, if_false, List.mem_cons]
      constructor
      · rintro (h1 | ⟨q, hq, h1⟩)
        · exact .inl h1
        · exact .inr ⟨q, .inr hq, h1⟩
      · rintro (h1 | ⟨q, rfl | hq, h1⟩)
        · exact .inl h1
        · rw [hp] at h1; cases h1.1
        · exact .inr ⟨q, hq, h1⟩
theorem inj_atI {l : List Int} (nd : l.Nodup) {i j : Nat} {x : Int} (a : l[i]? = some x) (b : l[j]? = some x) : i = j := by
  obtain ⟨h1, e1⟩ := List.getElem?_eq_some_iff.mp a
  obtain ⟨h2, e2⟩ := List.getElem?_eq_some_iff.mp b
  exact (List.getElem_inj nd).mp (e1.trans e2.symm)
theorem noThree_iff {l : List Int} : noThree l = true ↔ ∀ i, i < l.length - 2 → ¬ (l[i]? = l[i + 1]? ∧ l[i + 1]? = l[i + 2]?) := by
  have h := noThree_any l
  constructor
  · intro h1 i hi ⟨e1, e2⟩
    rw [h1] at h
    have : (List.range (l.length - 2)).any (fun i => decide (l[i]? = l[i + 1]?) && decide (l[i + 1]? = l[i + 2]?)) = true :=
      List.any_eq_true.mpr ⟨i, List.mem_range.mpr hi, by rw [decide_eq_true e1, decide_eq_true e2]; rfl⟩
    rw [this] at h
    cases h
  · intro h1
    cases h2 : noThree l with
    | true => rfl
    | false =>
      rw [h2] at h
      obtain ⟨i, hi, e⟩ := List.any_eq_true.mp h
      simp only [Bool.and_eq_true, decide_eq_true_eq] at e
      exact absurd e (h1 i (List.mem_range.mp hi))
theorem loose_nil {hs : List Int} : looseL hs = [] ↔ ∀ h ∈ hs, h ∈ tiedOf hs := by
  unfold looseL
  have hp := (perm_srt (hs.filter fun h => decide (h ∉ tiedOf hs))).1
  constructor
  · intro e
    rw [e] at hp
    have e2 := hp.symm.eq_nil
    intro h hm
    have := List.filter_eq_nil_iff.mp e2 h hm
    simpa using this
  · intro h
    have e2 : (hs.filter fun h => decide (h ∉ tiedOf hs)) = [] := List.filter_eq_nil_iff.mpr fun x hx => by simpa using h x hx
    rw [e2] at hp ⊢
    exact hp.eq_nil
theorem side_at {hs : List Int} {i : Nat} {x : Int} (h : hs[i]? = some x) : (sideL hs)[i]? = some (x % 2) := by
  unfold sideL
  rw [List.getElem?_map, h]
  rfl
/-- tied, by the place -/
theorem tied_at {hs : List Int} (nd : hs.Nodup) {i : Nat} {x : Int} (hx : hs[i]? = some x) : x ∈ tiedOf hs ↔ (i + 1 < hs.length ∧ (sideL hs)[i]? ≠ (sideL hs)[i + 1]?) ∨ (1 ≤ i ∧ (sideL hs)[i - 1]? ≠ (sideL hs)[i]?) := by
  unfold tiedOf
  rw [mem_tied]
  simp only [List.not_mem_nil, false_or]
  have acr_iff : ∀ p : Int × Int, acr p = true ↔ p.1 % 2 ≠ p.2 % 2 := fun p => by
    unfold acr
    simp
  constructor
  · rintro ⟨p, hp, ha, he⟩
    obtain ⟨j, h1, h2⟩ := mem_prs.mp hp
    have ha := (acr_iff p).mp ha
    have hj : j + 1 < hs.length := (List.getElem?_eq_some_iff.mp h2).1
    rcases he with rfl | rfl
    · have e := inj_atI nd hx h1
      subst e
      refine .inl ⟨hj, ?_⟩
      rw [side_at h1, side_at h2]
      exact fun e => ha (Option.some.inj e)
    · have e := inj_atI nd hx h2
      subst e
      refine .inr ⟨by omega, ?_⟩
      rw [Nat.add_sub_cancel, side_at h1, side_at h2]
      exact fun e => ha (Option.some.inj e)
  · rintro (⟨hi, hne⟩ | ⟨hi, hne⟩)
    · have h2 : hs[i + 1]? = some (hs[i + 1]'hi) := List.getElem?_eq_getElem hi
      refine ⟨(x, hs[i + 1]'hi), mem_prs.mpr ⟨i, hx, h2⟩, (acr_iff _).mpr ?_, .inl rfl⟩
      rw [side_at hx, side_at h2] at hne
      exact fun e => hne (congrArg some e)
    · have hil : i < hs.length := (List.getElem?_eq_some_iff.mp hx).1
      have h1 : hs[i - 1]? = some (hs[i - 1]'(by omega)) := List.getElem?_eq_getElem (by omega)
      refine ⟨(hs[i - 1]'(by omega), x), mem_prs.mpr ⟨i - 1, h1, by rw [Nat.sub_add_cancel hi]; exact hx⟩, (acr_iff _).mpr ?_, .inr rfl⟩
      rw [side_at hx, side_at h1] at hne
      exact fun e => hne (congrArg some e)
theorem hold_runs {hs : List Int} {k : Nat} (hl : Lac hs k) : holdB hs = runsB hs := by
  obtain ⟨e1, e2, e3, e4, nd⟩ := hl
  have sl := sideL_len hs
  unfold holdB runsB
  rw [Bool.eq_iff_iff]
  simp only [decide_eq_true_eq, Bool.and_eq_true, Bool.not_eq_true', Bool.or_eq_false_iff, decide_eq_false_iff_not, loose_nil, noThree_iff]
  have get : ∀ i, i < hs.length → ∃ x, hs[i]? = some x ∧ x ∈ hs := fun i hi => ⟨hs[i], List.getElem?_eq_getElem hi, List.getElem_mem hi⟩
  constructor
  · intro h
    refine ⟨⟨?_, ?_⟩, fun i hi ⟨a1, a2⟩ => ?_⟩
    · obtain ⟨x, hx, hm⟩ := get 0 (by omega)
      rcases (tied_at nd hx).mp (h x hm) with ⟨_, hne⟩ | ⟨hi, _⟩
      · exact hne
      · omega
    · obtain ⟨x, hx, hm⟩ := get (hs.length - 1) (by omega)
      rcases (tied_at nd hx).mp (h x hm) with ⟨hi, _⟩ | ⟨_, hne⟩
      · omega
      · rw [show hs.length - 1 - 1 = hs.length - 2 by omega] at hne
        exact fun e => hne e.symm
    · rw [sl] at hi
      obtain ⟨x, hx, hm⟩ := get (i + 1) (by omega)
      rcases (tied_at nd hx).mp (h x hm) with ⟨_, hne⟩ | ⟨_, hne⟩
      · exact hne a2
      · exact hne a1
  · rintro ⟨⟨h1, h2⟩, h3⟩ x hm
    obtain ⟨i, hi, rfl⟩ := List.getElem_of_mem hm
    have hx : hs[i]? = some hs[i] := List.getElem?_eq_getElem hi
    rw [tied_at nd hx]
    by_cases hi0 : i = 0
    · subst hi0
      exact .inl ⟨by omega, h1⟩
    · by_cases hil : i + 1 = hs.length
      · right
        refine ⟨by omega, fun e => h2 ?_⟩
        rw [show hs.length - 1 = i by omega, show hs.length - 2 = i - 1 by omega]
        exact e.symm
      · by_cases e : (sideL hs)[i]? = (sideL hs)[i + 1]?
        · right
          refine ⟨by omega, fun e' => h3 (i - 1) (by rw [sl]; omega) ?_⟩
          rw [show i - 1 + 1 = i by omega, show i - 1 + 2 = i + 1 by omega]
          exact ⟨e', e⟩
        · exact .inl ⟨by omega, e⟩
/-- where each stretch goes across, it holds -/
theorem all_across {hs : List Int} {k : Nat} (hl : Lac hs k) (h : (prs hs).length = ((prs hs).filter acr).length) : holdB hs = true := by
  obtain ⟨e1, e2, e3, e4, nd⟩ := id hl
  have hall : ∀ p ∈ prs hs, acr p = true := by
    have := List.length_filter_eq_length_iff.mp h.symm
    exact this
  unfold holdB
  refine decide_eq_true (loose_nil.mpr fun x hm => ?_)
  obtain ⟨i, hi, rfl⟩ := List.getElem_of_mem hm
  unfold tiedOf
  rw [mem_tied]
  right
  by_cases hil : i + 1 < hs.length
  · have hp : (hs[i], hs[i + 1]) ∈ prs hs := mem_prs.mpr ⟨i, List.getElem?_eq_getElem hi, List.getElem?_eq_getElem hil⟩
    exact ⟨_, hp, hall _ hp, .inl rfl⟩
  · have hp : (hs[i - 1]'(by omega), hs[i]) ∈ prs hs := mem_prs.mpr ⟨i - 1, List.getElem?_eq_getElem (by omega), by rw [show i - 1 + 1 = i by omega]; exact List.getElem?_eq_getElem hi⟩
    exact ⟨_, hp, hall _ hp, .inr rfl⟩
end LR

set_option Elab.async false
set_option linter.all false
set_option maxRecDepth 100000
set_option maxHeartbeats 4000000
namespace LR
open PySem PySem.Spec PyProof.Rows L2
def tD (hs : List Int) : D := .tup (hs.map .int)
def Part (hs : List Int) (j k : Nat) : Prop := hs.length = j ∧ (∀ h ∈ hs, 0 ≤ h ∧ h ≤ 2 * k - 1) ∧ hs.Nodup
section
variable {Γ : Gam} {n : Nat} {m : Mem}
theorem p_law_all (h1 : Γ.fn "_law_all" = some f_law_all) (k : Nat) (hk : 1 ≤ k) (hk2 : k ≤ 3) : ∃ L : List (List Int), callN Γ (n + 1) "_law_all" [.int k] m = .ok (.lst (L.map tD)) m ∧ (∀ hs ∈ L, Lac hs k) ∧ L.length ≤ 6 ^ 6 := by
  have hr := semR1 (j := 2 * (k : Int)) (by omega) (by omega)
  have hr2 : (2 * (k : Int)).toNat = 2 * k := by omega
  rw [hr2] at hr
  have hmul : ∀ (i : Int) (m : Mem), sem2 .mul (.int 2) (.int i) m = some (.int (2 * i)) := fun i m => z_mulL (by decide) (by decide)
  have comp : ∀ (L : List D) (R : D) (o2 : Option D) (hs : List Int) (hl : hs.length ≤ 100) (m : Mem), compL (compF Γ.con (callN Γ n) (.o2 .add (.v 4) (.tup (.cons (.v 5) .nil))) false [5] (.o2 .nin (.v 5) (.v 4)) [some (.int k), some (.lst L), o2, some R, some (tD hs), none]) ((List.range (2 * k)).map iD) [] m = .ok (((List.range (2 * k)).filter fun (h : Nat) => decide ((h : Int) ∉ hs)).map fun (h : Nat) => tD (hs ++ [(h : Int)])) m := fun L R o2 hs hl m => by
    have := compL_map (f := compF Γ.con (callN Γ n) (.o2 .add (.v 4) (.tup (.cons (.v 5) .nil))) false [5] (.o2 .nin (.v 5) (.v 4)) [some (.int k), some (.lst L), o2, some R, some (tD hs), none]) iD (fun (h : Nat) => decide ((h : Int) ∉ hs)) (fun (h : Nat) => tD (hs ++ [(h : Int)])) (fun a m => by
      have hl2 : hs.length + 1 ≤ lim := by show _ ≤ 1000000; omega
      by_cases hm : (a : Int) ∈ hs <;> simp [compF, E.isNop, tD, iD, inD_ints, hm, hl2]) (List.range (2 * k)) [] m
    simpa using this
  have inner : ∀ (j : Nat) (L : List (List Int)) (o2 o4 : Option D) (m : Mem), j < 6 → L.length ≤ 6 ^ j → (∀ hs ∈ L, Part hs j k) → ∃ (R : List (List Int)) (o : Option D), forL (loopF Γ.con (callN Γ n) false [4] (.seq (.asg (.nm 3) (.o2 .add (.v 3) (.nl false (.comp (.o2 .add (.v 4) (.tup (.cons (.v 5) .nil))) false [5] (.rng (.cons (.o2 .mul (.c (.int 2)) (.v 0)) .nil)) (.o2 .nin (.v 5) (.v 4)))))) .nop)) (L.map tD) [some (.int k), some (.lst (L.map tD)), o2, some (.lst []), o4, none] m = .ok (.nx [some (.int k), some (.lst (L.map tD)), o2, some (.lst (R.map tD)), o, none]) m ∧ R.length ≤ 6 ^ (j + 1) ∧ ∀ hs ∈ R, Part hs (j + 1) k := fun j L o2 o4 m hj hL hP => by
    have h6 : 6 ^ (j + 1) ≤ 46656 := Nat.pow_le_pow_right (n := 6) (by decide) (show j + 1 ≤ 6 by omega)
    have h6' : 6 ^ (j + 1) = 6 ^ j * 6 := Nat.pow_succ ..
    obtain ⟨s', m', e, rfl, R, o, rfl, hR, hRP⟩ := forL_inv (f := loopF Γ.con (callN Γ n) false [4] (.seq (.asg (.nm 3) (.o2 .add (.v 3) (.nl false (.comp (.o2 .add (.v 4) (.tup (.cons (.v 5) .nil))) false [5] (.rng (.cons (.o2 .mul (.c (.int 2)) (.v 0)) .nil)) (.o2 .nin (.v 5) (.v 4)))))) .nop))
      (fun i s m' => m' = m ∧ ∃ (R : List (List Int)) (o : Option D), s = [some (.int k), some (.lst (L.map tD)), o2, some (.lst (R.map tD)), o, none] ∧ R.length ≤ i * 6 ∧ ∀ hs ∈ R, Part hs (j + 1) k) (L.map tD) 0 [some (.int k), some (.lst (L.map tD)), o2, some (.lst []), o4, none] m ⟨rfl, [], o4, rfl, by simp, by simp⟩ (by
        rintro i d s m' hd ⟨rfl, R, o, rfl, hR, hRP⟩
        rw [List.getElem?_map] at hd
        obtain ⟨hs, hhs, rfl⟩ := Option.map_eq_some_iff.mp hd
        have hmem := List.mem_of_getElem? hhs
        obtain ⟨q1, q2, q3⟩ := hP hs hmem
        have hi : i < L.length := (List.getElem?_eq_some_iff.mp hhs).1
        have hc := comp (L.map tD) (.lst (R.map tD)) o2 hs (by omega) m'
        generalize hN : (((List.range (2 * k)).filter fun (h : Nat) => decide ((h : Int) ∉ hs)).map fun (h : Nat) => hs ++ [(h : Int)]) = N
        have hN2 : (((List.range (2 * k)).filter fun (h : Nat) => decide ((h : Int) ∉ hs)).map fun (h : Nat) => tD (hs ++ [(h : Int)])) = N.map tD := by
          rw [← hN, List.map_map]
          rfl
        rw [hN2] at hc
        have hNl : N.length ≤ 6 := by
          rw [← hN, List.length_map]
          have := List.length_filter_le (fun (h : Nat) => decide ((h : Int) ∉ hs)) (List.range (2 * k))
          rw [List.length_range] at this
          omega
        have hsum : (R.map tD).length + (N.map tD).length ≤ lim := by
          rw [List.length_map, List.length_map]
          show _ ≤ 1000000
          omega
        refine ⟨_, _, ?_, rfl, R ++ N, some (tD hs), rfl, by rw [List.length_append]; omega, fun x hx => ?_⟩
        · have hsum' := hsum
          rw [List.length_map, List.length_map] at hsum'
          simp [-z_mul, loopF, hmul, hr, hc, hsum']
        · rcases List.mem_append.mp hx with hx | hx
          · exact hRP x hx
          · rw [← hN] at hx
            obtain ⟨a, ha, rfl⟩ := List.mem_map.mp hx
            obtain ⟨ha1, ha2⟩ := List.mem_filter.mp ha
            have ha1 := List.mem_range.mp ha1
            have ha2 : (a : Int) ∉ hs := of_decide_eq_true ha2
            refine ⟨by simp [q1], fun y hy => ?_, ?_⟩
            · rcases List.mem_append.mp hy with hy | hy
              · exact q2 y hy
              · simp at hy
                omega
            · rw [List.nodup_append]
              refine ⟨q3, by simp, fun y hy z hz e => ?_⟩
              simp at hz
              subst hz
              exact ha2 (e ▸ hy))
    refine ⟨R, o, e, ?_, hRP⟩
    rw [List.length_map] at hR
    omega
  obtain ⟨s', m', e, rfl, L, o2, o3, o4, rfl, hL, hLP⟩ := forL_inv (f := loopF Γ.con (callN Γ n) false [2] (.seq (.asg (.nm 3) (.nl false (.disp (.nil)))) (.seq (.loop false [4] (.seq (.v 1)) (.seq (.asg (.nm 3) (.o2 .add (.v 3) (.nl false (.comp (.o2 .add (.v 4) (.tup (.cons (.v 5) .nil))) false [5] (.rng (.cons (.o2 .mul (.c (.int 2)) (.v 0)) .nil)) (.o2 .nin (.v 5) (.v 4)))))) .nop)) (.seq (.asg (.nm 1) (.v 3)) .nop))))
    (fun j s m' => m' = m ∧ ∃ (L : List (List Int)) (o2 o3 o4 : Option D), s = [some (.int k), some (.lst (L.map tD)), o2, o3, o4, none] ∧ L.length ≤ 6 ^ j ∧ ∀ hs ∈ L, Part hs j k) ((List.range (2 * k)).map iD) 0 [some (.int k), some (.lst [tD []]), none, none, none, none] m ⟨rfl, [[]], none, none, none, rfl, by simp, by simp [Part]⟩ (by
      rintro j d s m' hd ⟨rfl, L, o2, o3, o4, rfl, hL, hLP⟩
      have hj : j < 2 * k := by
        have := (List.getElem?_eq_some_iff.mp hd).1
        simpa using this
      rw [Nat.zero_add] at hL hLP
      obtain ⟨R, o, e, hR, hRP⟩ := inner j L (some d) o4 m' (by omega) hL hLP
      have h6 : 6 ^ j ≤ 7776 := Nat.pow_le_pow_right (n := 6) (by decide) (show j ≤ 5 by omega)
      have hLl : L.length ≤ lim := by show _ ≤ 1000000; omega
      refine ⟨_, _, ?_, rfl, R, some d, some (.lst (R.map tD)), o, rfl, by rw [Nat.zero_add]; exact hR, by rw [Nat.zero_add]; exact hRP⟩
      have e' : loopF Γ.con (callN Γ n) false [2] (.seq (.asg (.nm 3) (.nl false (.disp (.nil)))) (.seq (.loop false [4] (.seq (.v 1)) (.seq (.asg (.nm 3) (.o2 .add (.v 3) (.nl false (.comp (.o2 .add (.v 4) (.tup (.cons (.v 5) .nil))) false [5] (.rng (.cons (.o2 .mul (.c (.int 2)) (.v 0)) .nil)) (.o2 .nin (.v 5) (.v 4)))))) .nop)) (.seq (.asg (.nm 1) (.v 3)) .nop))) d [some (.int k), some (.lst (L.map tD)), o2, o3, o4, none] m' = .ok (.nx [some (.int k), some (.lst (R.map tD)), some d, some (.lst (R.map tD)), o, none]) m' := by
        simp [loopF, hLl, e]
      exact e')
  refine ⟨L, ?_, fun hs h => ?_, ?_⟩
  · rw [callN_eq h1 rfl]
    have e0 : (D.lst [D.tup []]) = .lst [tD []] := rfl
    simp [-z_mul, f_law_all, a_law_all, hmul, hr, e0, e]
  · obtain ⟨q1, q2, q3⟩ := hLP hs h
    rw [List.length_map, List.length_range, Nat.zero_add] at q1
    exact ⟨q1, hk, by omega, q2, q3⟩
  · rw [List.length_map, List.length_range, Nat.zero_add] at hL
    exact Nat.le_trans hL (Nat.pow_le_pow_right (by decide) (by omega))
end
end LR

set_option Elab.async false
set_option linter.all false
set_option maxRecDepth 100000
set_option maxHeartbeats 4000000
namespace LR
open PySem PySem.Spec PyProof.Rows L2
def extL (k : Nat) (hs : List Int) : List (List Int) := ((List.range (2 * k)).filter fun (h : Nat) => decide ((h : Int) ∉ hs)).map fun (h : Nat) => hs ++ [(h : Int)]
def allN (k : Nat) : Nat → List (List Int)
  | 0 => [[]]
  | j + 1 => (allN k j).flatMap (extL k)
section
variable {Γ : Gam} {n : Nat} {m : Mem}
theorem p_law_allX (h1 : Γ.fn "_law_all" = some f_law_all) (k : Nat) (hk : 1 ≤ k) (hk2 : k ≤ 3) : callN Γ (n + 1) "_law_all" [.int k] m = .ok (.lst ((allN k (2 * k)).map tD)) m ∧ (∀ hs ∈ allN k (2 * k), Lac hs k) ∧ (allN k (2 * k)).length ≤ 6 ^ 6 := by
  have hr := semR1 (j := 2 * (k : Int)) (by omega) (by omega)
  have hr2 : (2 * (k : Int)).toNat = 2 * k := by omega
  rw [hr2] at hr
  have hmul : ∀ (i : Int) (m : Mem), sem2 .mul (.int 2) (.int i) m = some (.int (2 * i)) := fun i m => z_mulL (by decide) (by decide)
  have comp : ∀ (L : List D) (R : D) (o2 : Option D) (hs : List Int) (hl : hs.length ≤ 100) (m : Mem), compL (compF Γ.con (callN Γ n) (.o2 .add (.v 4) (.tup (.cons (.v 5) .nil))) false [5] (.o2 .nin (.v 5) (.v 4)) [some (.int k), some (.lst L), o2, some R, some (tD hs), none]) ((List.range (2 * k)).map iD) [] m = .ok (((List.range (2 * k)).filter fun (h : Nat) => decide ((h : Int) ∉ hs)).map fun (h : Nat) => tD (hs ++ [(h : Int)])) m := fun L R o2 hs hl m => by
    have := compL_map (f := compF Γ.con (callN Γ n) (.o2 .add (.v 4) (.tup (.cons (.v 5) .nil))) false [5] (.o2 .nin (.v 5) (.v 4)) [some (.int k), some (.lst L), o2, some R, some (tD hs), none]) iD (fun (h : Nat) => decide ((h : Int) ∉ hs)) (fun (h : Nat) => tD (hs ++ [(h : Int)])) (fun a m => by
      have hl2 : hs.length + 1 ≤ lim := by show _ ≤ 1000000; omega
      by_cases hm : (a : Int) ∈ hs <;> simp [compF, E.isNop, tD, iD, inD_ints, hm, hl2]) (List.range (2 * k)) [] m
    simpa using this
  have inner : ∀ (j : Nat) (L : List (List Int)) (o2 o4 : Option D) (m : Mem), j < 6 → L.length ≤ 6 ^ j → (∀ hs ∈ L, Part hs j k) → ∃ (R : List (List Int)) (o : Option D), forL (loopF Γ.con (callN Γ n) false [4] (.seq (.asg (.nm 3) (.o2 .add (.v 3) (.nl false (.comp (.o2 .add (.v 4) (.tup (.cons (.v 5) .nil))) false [5] (.rng (.cons (.o2 .mul (.c (.int 2)) (.v 0)) .nil)) (.o2 .nin (.v 5) (.v 4)))))) .nop)) (L.map tD) [some (.int k), some (.lst (L.map tD)), o2, some (.lst []), o4, none] m = .ok (.nx [some (.int k), some (.lst (L.map tD)), o2, some (.lst (R.map tD)), o, none]) m ∧ R.length ≤ 6 ^ (j + 1) ∧ R = L.flatMap (extL k) ∧ ∀ hs ∈ R, Part hs (j + 1) k := fun j L o2 o4 m hj hL hP => by
    have h6 : 6 ^ (j + 1) ≤ 46656 := Nat.pow_le_pow_right (n := 6) (by decide) (show j + 1 ≤ 6 by omega)
    have h6' : 6 ^ (j + 1) = 6 ^ j * 6 := Nat.pow_succ ..
    obtain ⟨s', m', e, rfl, R, o, rfl, hR, hRX, hRP⟩ := forL_inv (f := loopF Γ.con (callN Γ n) false [4] (.seq (.asg (.nm 3) (.o2 .add (.v 3) (.nl false (.comp (.o2 .add (.v 4) (.tup (.cons (.v 5) .nil))) false [5] (.rng (.cons (.o2 .mul (.c (.int 2)) (.v 0)) .nil)) (.o2 .nin (.v 5) (.v 4)))))) .nop))
      (fun i s m' => m' = m ∧ ∃ (R : List (List Int)) (o : Option D), s = [some (.int k), some (.lst (L.map tD)), o2, some (.lst (R.map tD)), o, none] ∧ R.length ≤ i * 6 ∧ R = (L.take i).flatMap (extL k) ∧ ∀ hs ∈ R, Part hs (j + 1) k) (L.map tD) 0 [some (.int k), some (.lst (L.map tD)), o2, some (.lst []), o4, none] m ⟨rfl, [], o4, rfl, by simp, by simp, by simp⟩ (by
        rintro i d s m' hd ⟨rfl, R, o, rfl, hR, hRX, hRP⟩
        rw [List.getElem?_map] at hd
        obtain ⟨hs, hhs, rfl⟩ := Option.map_eq_some_iff.mp hd
        have hmem := List.mem_of_getElem? hhs
        obtain ⟨q1, q2, q3⟩ := hP hs hmem
        have hi : i < L.length := (List.getElem?_eq_some_iff.mp hhs).1
        have hc := comp (L.map tD) (.lst (R.map tD)) o2 hs (by omega) m'
        generalize hN : (((List.range (2 * k)).filter fun (h : Nat) => decide ((h : Int) ∉ hs)).map fun (h : Nat) => hs ++ [(h : Int)]) = N
        have hN2 : (((List.range (2 * k)).filter fun (h : Nat) => decide ((h : Int) ∉ hs)).map fun (h : Nat) => tD (hs ++ [(h : Int)])) = N.map tD := by
          rw [← hN, List.map_map]
          rfl
        rw [hN2] at hc
        have hNl : N.length ≤ 6 := by
          rw [← hN, List.length_map]
          have := List.length_filter_le (fun (h : Nat) => decide ((h : Int) ∉ hs)) (List.range (2 * k))
          rw [List.length_range] at this
          omega
        have hsum : (R.map tD).length + (N.map tD).length ≤ lim := by
          rw [List.length_map, List.length_map]
          show _ ≤ 1000000
          omega
        have hNX : N = extL k hs := hN.symm
        refine ⟨_, _, ?_, rfl, R ++ N, some (tD hs), rfl, by rw [List.length_append]; omega, by rw [Nat.zero_add] at hRX ⊢; rw [List.take_add_one, hhs, List.flatMap_append, ← hRX, hNX]; simp, fun x hx => ?_⟩
        · have hsum' := hsum
          rw [List.length_map, List.length_map] at hsum'
          simp [-z_mul, loopF, hmul, hr, hc, hsum']
        · rcases List.mem_append.mp hx with hx | hx
          · exact hRP x hx
          · rw [← hN] at hx
            obtain ⟨a, ha, rfl⟩ := List.mem_map.mp hx
            obtain ⟨ha1, ha2⟩ := List.mem_filter.mp ha
            have ha1 := List.mem_range.mp ha1
            have ha2 : (a : Int) ∉ hs := of_decide_eq_true ha2
            refine ⟨by simp [q1], fun y hy => ?_, ?_⟩
            · rcases List.mem_append.mp hy with hy | hy
              · exact q2 y hy
              · simp at hy
                omega
            · rw [List.nodup_append]
              refine ⟨q3, by simp, fun y hy z hz e => ?_⟩
              simp at hz
              subst hz
              exact ha2 (e ▸ hy))
    refine ⟨R, o, e, ?_, ?_, hRP⟩
    · rw [List.length_map] at hR
      omega
    · rw [hRX, List.length_map, Nat.zero_add, List.take_length]
  obtain ⟨s', m', e, rfl, L, o2, o3, o4, rfl, hL, hLX, hLP⟩ := forL_inv (f := loopF Γ.con (callN Γ n) false [2] (.seq (.asg (.nm 3) (.nl false (.disp (.nil)))) (.seq (.loop false [4] (.seq (.v 1)) (.seq (.asg (.nm 3) (.o2 .add (.v 3) (.nl false (.comp (.o2 .add (.v 4) (.tup (.cons (.v 5) .nil))) false [5] (.rng (.cons (.o2 .mul (.c (.int 2)) (.v 0)) .nil)) (.o2 .nin (.v 5) (.v 4)))))) .nop)) (.seq (.asg (.nm 1) (.v 3)) .nop))))
    (fun j s m' => m' = m ∧ ∃ (L : List (List Int)) (o2 o3 o4 : Option D), s = [some (.int k), some (.lst (L.map tD)), o2, o3, o4, none] ∧ L.length ≤ 6 ^ j ∧ L = allN k j ∧ ∀ hs ∈ L, Part hs j k) ((List.range (2 * k)).map iD) 0 [some (.int k), some (.lst [tD []]), none, none, none, none] m ⟨rfl, [[]], none, none, none, rfl, by simp, rfl, by simp [Part]⟩ (by
      rintro j d s m' hd ⟨rfl, L, o2, o3, o4, rfl, hL, hLX, hLP⟩
      have hj : j < 2 * k := by
        have := (List.getElem?_eq_some_iff.mp hd).1
        simpa using this
      rw [Nat.zero_add] at hL hLP hLX
      obtain ⟨R, o, e, hR, hRX, hRP⟩ := inner j L (some d) o4 m' (by omega) hL hLP
      have h6 : 6 ^ j ≤ 7776 := Nat.pow_le_pow_right (n := 6) (by decide) (show j ≤ 5 by omega)
      have hLl : L.length ≤ lim := by show _ ≤ 1000000; omega
      refine ⟨_, _, ?_, rfl, R, some d, some (.lst (R.map tD)), o, rfl, by rw [Nat.zero_add]; exact hR, by rw [Nat.zero_add, hRX, hLX]; rfl, by rw [Nat.zero_add]; exact hRP⟩
      have e' : loopF Γ.con (callN Γ n) false [2] (.seq (.asg (.nm 3) (.nl false (.disp (.nil)))) (.seq (.loop false [4] (.seq (.v 1)) (.seq (.asg (.nm 3) (.o2 .add (.v 3) (.nl false (.comp (.o2 .add (.v 4) (.tup (.cons (.v 5) .nil))) false [5] (.rng (.cons (.o2 .mul (.c (.int 2)) (.v 0)) .nil)) (.o2 .nin (.v 5) (.v 4)))))) .nop)) (.seq (.asg (.nm 1) (.v 3)) .nop))) d [some (.int k), some (.lst (L.map tD)), o2, o3, o4, none] m' = .ok (.nx [some (.int k), some (.lst (R.map tD)), some d, some (.lst (R.map tD)), o, none]) m' := by
        simp [loopF, hLl, e]
      exact e')
  rw [List.length_map, List.length_range, Nat.zero_add] at hLX
  rw [← hLX]
  refine ⟨?_, fun hs h => ?_, ?_⟩
  · rw [callN_eq h1 rfl]
    have e0 : (D.lst [D.tup []]) = .lst [tD []] := rfl
    simp [-z_mul, f_law_all, a_law_all, hmul, hr, e0, e]
  · obtain ⟨q1, q2, q3⟩ := hLP hs h
    rw [List.length_map, List.length_range, Nat.zero_add] at q1
    exact ⟨q1, hk, by omega, q2, q3⟩
  · rw [List.length_map, List.length_range, Nat.zero_add] at hL
    exact Nat.le_trans hL (Nat.pow_le_pow_right (by decide) (by omega))
end
end LR

set_option Elab.async false
set_option linter.all false
set_option maxRecDepth 100000
set_option maxHeartbeats 4000000
namespace LR
open PySem PySem.Spec PyProof.Rows L2
def a_law_holds : S := (.seq (.loop true [1, 2] (.enum (.v 0)) (.seq (.asg (.nm 3) (.o2 .add (.nl false (.cp (.sl (.v 0) (.bi .max (.cons (.c (.int 0)) (.cons (.o2 .sub (.v 1) (.c (.int 1))) .nil))) (.v 1)))) (.nl false (.cp (.sl (.v 0) (.o2 .add (.v 1) (.c (.int 1))) (.o2 .add (.v 1) (.c (.int 2)))))))) (.seq (.ite (.o2 .eq (.nl false (.comp (.v 4) false [4] (.seq (.v 3)) (.o2 .eq (.o2 .mod (.bi .int (.cons (.o2 .add (.v 4) (.v 2)) .nil)) (.c (.int 2))) (.c (.int 1))))) (.nl false (.disp (.nil)))) (.seq (.ret (.c (.bl false))) .nop) .nop) .nop))) (.seq (.ret (.c (.bl true))) .nop))
def n_law_holds : List PySem.Str := ["_law_holes", "_law_place", "_law_hole", "_law_near", "_law_other"]
def f_law_holds : Fn := ⟨5, 1, a_law_holds⟩
section
variable {G : Str → Option D} {cl : Str → List D → Mem → R D} {s : Sl} {m : Mem} {a b c e o t : E} {sb : S}
@[simp] theorem x_sl2 : evN G cl (.sl2 a e) s m = (ev G cl a s m).bind fun x m => (ev G cl e s m).bind fun l m => opt m (match l with
    | .int i => if 0 ≤ i then (x.lseq m).map fun q => evry (q.drop i.toNat) else none
    | _ => none) := by rw [evN]; try rfl
@[simp] theorem x_srd : evN G cl (.srd e) s m = (ev G cl e s m).bind fun x m => opt m (semN1 3 x m) := by rw [evN]
@[simp] theorem y_rse {x : Str} : evS G cl (.rse x) s m = .exc ⟨x, []⟩ m := by rw [evS]
@[simp] theorem y_tri {tb : List (Str × D)} : evS G cl (.tri sb tb) s m = match evS G cl sb s m with
    | .exc x m => match tab x.cls tb with
      | some d => .ok (.rt d) m
      | none => .err
    | r => r := by rw [evS]; try rfl
@[simp] theorem x_bindE {α β : Type} {x : Xc} {f : α → Mem → R β} : (R.exc x m : R α).bind f = .exc x m := rfl
@[simp] theorem x_rev {l : List D} : sem1 .rev (.tup l) = some (.tup l.reverse) := rfl
end
/-! ### slices -/
theorem sIx_nat (n d a : Nat) : HT.sIx n d (some (a : Int)) = min a n := by
  show (if (a : Int) < 0 then ((a : Int) + (n : Int)).toNat else min (a : Int).toNat n) = _
  rw [if_neg (by omega), Int.toNat_natCast]
theorem cut_nat (l : List D) (a b : Nat) : cutD l (some (a : Int)) (some (b : Int)) = (l.drop a).take (b - a) := by
  unfold cutD
  rw [sIx_nat, sIx_nat]
  refine List.ext_getElem? fun k => ?_
  rw [List.getElem?_take, List.getElem?_take, List.getElem?_drop, List.getElem?_drop]
  by_cases ha : a ≤ l.length
  · rw [Nat.min_eq_left ha]
    by_cases hb : b ≤ l.length
    · rw [Nat.min_eq_left hb]
    · rw [Nat.min_eq_right (by omega)]
      by_cases h1 : k < l.length - a
      · rw [if_pos h1, if_pos (by omega)]
      · rw [if_neg h1, List.getElem?_eq_none (by omega)]
        split <;> rfl
  · rw [Nat.min_eq_right (a := a) (by omega), List.getElem?_eq_none (by omega), List.getElem?_eq_none (by omega)]
    split <;> split <;> rfl
theorem cut_to (l : List D) (b : Nat) : cutD l none (some (b : Int)) = l.take b := by
  have h := cut_nat l 0 b
  rw [List.drop_zero, Nat.sub_zero] at h
  exact h
theorem cut_from (l : List D) (a : Nat) : cutD l (some (a : Int)) none = l.drop a := by
  unfold cutD
  have e2 : HT.sIx l.length l.length none = l.length := rfl
  rw [sIx_nat, e2]
  by_cases ha : a ≤ l.length
  · rw [Nat.min_eq_left ha, List.take_of_length_le (by simp)]
  · rw [Nat.min_eq_right (by omega), List.drop_of_length_le (Nat.le_refl _), List.drop_of_length_le (by omega), List.take_nil]
theorem cut_toI (l : List D) (i : Int) (h : 0 ≤ i) : cutD l none (some i) = l.take i.toNat := by
  have := cut_to l i.toNat
  rwa [Int.toNat_of_nonneg h] at this
theorem cut_fromI (l : List D) (i : Int) (h : 0 ≤ i) : cutD l (some i) none = l.drop i.toNat := by
  have := cut_from l i.toNat
  rwa [Int.toNat_of_nonneg h] at this
theorem cut_natI (l : List D) (i j : Int) (h : 0 ≤ i) (h2 : 0 ≤ j) : cutD l (some i) (some j) = (l.drop i.toNat).take (j.toNat - i.toNat) := by
  have := cut_nat l i.toNat j.toNat
  rwa [Int.toNat_of_nonneg h, Int.toNat_of_nonneg h2] at this
theorem enumD_map : ∀ (l : List Int) (n : Nat), enumD n (l.map .int) = (l.zipIdx n).map fun p => .tup [.int (p.2 : Int), .int p.1]
  | [], n => rfl
  | a :: l, n => by
    rw [List.map_cons, enumD, enumD_map l (n + 1)]
    simp [List.zipIdx_cons]
/-! ### _law_holds -/
def nearL (hs : List Int) (i : Nat) : List Int := (hs.drop (i - 1)).take (i - (i - 1)) ++ (hs.drop (i + 1)).take 1
def lawHB (hs : List Int) : Bool := !(hs.zipIdx.any fun p => decide (((nearL hs p.2).filter fun o => decide ((o + p.1) % 2 = 1)) = []))
theorem near_mem {hs : List Int} {i : Nat} (hi : i < hs.length) {x : Int} : x ∈ nearL hs i ↔ (1 ≤ i ∧ hs[i - 1]? = some x) ∨ hs[i + 1]? = some x := by
  unfold nearL
  rw [List.mem_append]
  have one : ∀ (l : List Int) (j : Nat), x ∈ (l.drop j).take 1 ↔ l[j]? = some x := fun l j => by
    rw [List.take_one, List.head?_drop]
    cases l[j]? <;> simp [eq_comm]
  rw [one]
  by_cases h0 : i = 0
  · subst h0
    simp
  · have : i - (i - 1) = 1 := by omega
    rw [this, one]
    simp [show 1 ≤ i by omega]
theorem lawHB_holdB {hs : List Int} (nd : hs.Nodup) : lawHB hs = holdB hs := by
  have sl := sideL_len hs
  unfold lawHB holdB
  rw [Bool.eq_iff_iff, Bool.not_eq_true', decide_eq_true_eq, loose_nil]
  have odd : ∀ a b : Int, (a + b) % 2 = 1 ↔ a % 2 ≠ b % 2 := fun a b => by omega
  constructor
  · intro h x hm
    obtain ⟨i, hi, rfl⟩ := List.getElem_of_mem hm
    have hx : hs[i]? = some hs[i] := List.getElem?_eq_getElem hi
    have h1 := List.any_eq_false.mp h (hs[i], i) (by rw [List.mem_zipIdx_iff_getElem?]; exact hx)
    rw [decide_eq_true_eq] at h1
    obtain ⟨o, ho⟩ := List.exists_mem_of_ne_nil _ h1
    obtain ⟨ho1, ho2⟩ := List.mem_filter.mp ho
    have ho2 := (odd _ _).mp (of_decide_eq_true ho2)
    rw [tied_at nd hx]
    rcases (near_mem hi).mp ho1 with ⟨h2, h3⟩ | h3
    · refine .inr ⟨h2, ?_⟩
      rw [side_at hx, side_at h3]
      exact fun e => ho2 (Option.some.inj e)
    · refine .inl ⟨(List.getElem?_eq_some_iff.mp h3).1, ?_⟩
      rw [side_at hx, side_at h3]
      exact fun e => ho2 (Option.some.inj e).symm
  · intro h
    refine List.any_eq_false.mpr fun p hp => ?_
    rw [List.mem_zipIdx_iff_getElem?] at hp
    have hi := (List.getElem?_eq_some_iff.mp hp).1
    rw [decide_eq_true_eq]
    intro hnil
    have hno := List.filter_eq_nil_iff.mp hnil
    rcases (tied_at nd hp).mp (h _ (List.mem_of_getElem? hp)) with ⟨h2, h3⟩ | ⟨h2, h3⟩
    · have hx : hs[p.2 + 1]? = some hs[p.2 + 1] := List.getElem?_eq_getElem h2
      refine hno _ ((near_mem hi).mpr (.inr hx)) (decide_eq_true ((odd _ _).mpr fun e => h3 ?_))
      rw [side_at hp, side_at hx, e]
    · have hx : hs[p.2 - 1]? = some hs[p.2 - 1] := List.getElem?_eq_getElem (by omega)
      refine hno _ ((near_mem hi).mpr (.inl ⟨h2, hx⟩)) (decide_eq_true ((odd _ _).mpr fun e => h3 ?_))
      rw [side_at hp, side_at hx, e]
section
variable {Γ : Gam} {n : Nat} {m : Mem}
@[simp] theorem s_e {l : List D} : semE (.tup l) = if l.length ≤ lim then some (enumD 0 l) else none := rfl
@[simp] theorem b_max2 {m : Mem} {i j : Int} : semBi .max [.int i, .int j] m = some (.int (if j > i then j else i)) := rfl
abbrev sHold : S := (.seq (.asg (.nm 3) (.o2 .add (.nl false (.cp (.sl (.v 0) (.bi .max (.cons (.c (.int 0)) (.cons (.o2 .sub (.v 1) (.c (.int 1))) .nil))) (.v 1)))) (.nl false (.cp (.sl (.v 0) (.o2 .add (.v 1) (.c (.int 1))) (.o2 .add (.v 1) (.c (.int 2)))))))) (.seq (.ite (.o2 .eq (.nl false (.comp (.v 4) false [4] (.seq (.v 3)) (.o2 .eq (.o2 .mod (.bi .int (.cons (.o2 .add (.v 4) (.v 2)) .nil)) (.c (.int 2))) (.c (.int 1))))) (.nl false (.disp (.nil)))) (.seq (.ret (.c (.bl false))) .nop) .nop) .nop))
theorem p_law_holds (h0 : Γ.fn "_law_holds" = some f_law_holds) (hs : List Int) (hl : hs.length ≤ 1000) : callN Γ (n + 1) "_law_holds" [.tup (hs.map .int)] m = .ok (.bl (lawHB hs)) m := by
  rw [callN_eq h0 rfl]
  have hlim : hs.length ≤ lim := Nat.le_trans hl (by decide)
  obtain ⟨o', key⟩ := forL_stop (f := loopF Γ.con (callN Γ n) true [1, 2] sHold) (fun (p : Int × Nat) => .tup [.int (p.2 : Int), .int p.1]) (fun o => [some (.tup (hs.map .int)), o.map (fun p => .int (p.2 : Int)), o.map (fun p => .int p.1), o.map (fun p => .lst ((nearL hs p.2).map .int)), none])
    (fun p => decide (((nearL hs p.2).filter fun o => decide ((o + p.1) % 2 = 1)) = [])) (.bl false) hs.zipIdx none m (fun p o m hp => by
      obtain ⟨x, i⟩ := p
      have hi : i < hs.length := by
        rw [List.mem_zipIdx_iff_getElem?] at hp
        exact (List.getElem?_eq_some_iff.mp hp).1
      have hmax : (if 1 < (i : Int) then (i : Int) - 1 else 0) = ((i - 1 : Nat) : Int) := by split <;> omega
      have c1 := cut_nat (hs.map .int) (i - 1) i
      have c2 := cut_nat (hs.map .int) (i + 1) (i + 2)
      rw [show i + 2 - (i + 1) = 1 by omega, show ((i + 1 : Nat) : Int) = (i : Int) + 1 by omega, show ((i + 2 : Nat) : Int) = (i : Int) + 2 by omega] at c2
      have hN : List.take (i - (i - 1)) (List.drop (i - 1) (hs.map D.int)) ++ List.take 1 (List.drop (i + 1) (hs.map D.int)) = (nearL hs i).map .int := by
        unfold nearL
        simp [List.map_take, List.map_drop]
      have l1 : (List.take (i - (i - 1)) (List.drop (i - 1) (hs.map D.int))).length + (List.take 1 (List.drop (i + 1) (hs.map D.int))).length ≤ lim := by
        show _ ≤ 1000000
        simp
        omega
      have ln : ((nearL hs i).map D.int).length ≤ lim := by rw [← hN, List.length_append]; exact l1
      have hc := compL_map (f := compF Γ.con (callN Γ n) (.v 4) false [4] (.o2 .eq (.o2 .mod (.bi .int (.cons (.o2 .add (.v 4) (.v 2)) .nil)) (.c (.int 2))) (.c (.int 1))) [some (.tup (hs.map .int)), some (.int (i : Int)), some (.int x), some (.lst ((nearL hs i).map .int)), none]) D.int (fun o => decide ((o + x) % 2 = 1)) D.int (fun o m => by
        by_cases hm : (o + x) % 2 = 1 <;> simp [compF, E.isNop, hm]) (nearL hs i) [] m
      simp only [List.nil_append] at hc
      have e := eqD_ints ((nearL hs i).filter fun o => decide ((o + x) % 2 = 1)) []
      simp only [List.map_nil] at e
      generalize hA : List.take (i - (i - 1)) (List.drop (i - 1) (hs.map D.int)) = A at c1 hN l1
      generalize hB : List.take 1 (List.drop (i + 1) (hs.map D.int)) = B at c2 hN l1
      have e0 : loopF Γ.con (callN Γ n) true [1, 2] sHold (.tup [.int (i : Int), .int x]) [some (.tup (hs.map .int)), o.map (fun p => .int (p.2 : Int)), o.map (fun p => .int p.1), o.map (fun p => .lst ((nearL hs p.2).map .int)), none] m = evS Γ.con (callN Γ n) sHold [some (.tup (hs.map .int)), some (.int (i : Int)), some (.int x), o.map (fun p => .lst ((nearL hs p.2).map .int)), none] m := rfl
      refine e0.trans ?_
      generalize ((nearL hs i).filter fun o => decide ((o + x) % 2 = 1)) = F at hc e ⊢
      have ln' : (nearL hs i).length ≤ lim := by rw [List.length_map] at ln; exact ln
      generalize decide (F = []) = bF at e ⊢
      cases bF <;> simp -implicitDefEqProofs [sHold, pO, E.isNop, semPart, semSl, hmax, c1, c2, semN1, l1, hN, ln', hc, e])
  have hen := enumD_map hs 0
  simp only [Option.map_none] at key
  unfold lawHB
  cases hany : (hs.zipIdx.any fun p => decide (((nearL hs p.2).filter fun o => decide ((o + p.1) % 2 = 1)) = [])) with
  | true =>
    rw [hany] at key
    simp -implicitDefEqProofs [f_law_holds, a_law_holds, hlim, hen, key]
  | false =>
    rw [hany] at key
    simp -implicitDefEqProofs [f_law_holds, a_law_holds, hlim, hen, key]
end
end LR

set_option Elab.async false
set_option linter.all false
set_option maxRecDepth 100000
set_option maxHeartbeats 4000000
namespace LR
open PySem PySem.Spec PyProof.Rows L2
/-! ### the loops that all laws share -/
section
variable {Γ : Gam} {n : Nat}
/-- for k in ..: source = _law_source(script, k); b -/
theorem outer (h1 : Γ.fn "_law_source" = some f_law_source) (ns : List Int) (L kk cc : Nat) (hkk : kk < L) (hcc : cc < L) (h0k : kk ≠ 0) (h0c : cc ≠ 0) (hkc : kk ≠ cc) (b : S)
    (hb : ∀ (c : Nat) (s : Sl) (m : Mem), SrcAt m c → s.length = L → s[0]? = some (some (.scr (ns.map .int))) → s[cc]? = some (some (.ref c)) → ∃ s' m', evS Γ.con (callN Γ (n + 1)) b s m = .ok (.nx s') m' ∧ s'.length = L ∧ s'[0]? = some (some (.scr (ns.map .int)))) :
    ∀ (items : List Nat) (s : Sl) (m : Mem), (∀ k ∈ items, k ≤ 1000) → s.length = L → s[0]? = some (some (.scr (ns.map .int))) →
      ∃ s' m', forL (loopF Γ.con (callN Γ (n + 1)) false [kk] (.seq (.asg (.nm cc) (.call "_law_source" (.cons (.v 0) (.cons (.v kk) .nil)))) b)) (items.map iD) s m = .ok (.nx s') m' ∧ s'.length = L ∧ s'[0]? = some (some (.scr (ns.map .int)))
  | [], s, m, _, hl, h0 => ⟨s, m, rfl, hl, h0⟩
  | k :: items, s, m, hi, hl, h0 => by
    obtain ⟨a, b', e1, x1, x2, x3⟩ := p_source (Γ := Γ) (n := n) (m := m) h1 ns k (hi k List.mem_cons_self)
    have hs : SrcAt (m ++ [Cell.lst [.int a, .int b']]) m.length := ⟨a, b', by rw [List.getElem?_append_right (Nat.le_refl _)]; simp, x1, x2, x3⟩
    have g0 : (s.set kk (some (iD k)))[0]? = some (some (.scr (ns.map .int))) := by rw [List.getElem?_set_ne h0k]; exact h0
    have gk : (s.set kk (some (iD k)))[kk]? = some (some (iD k)) := List.getElem?_set_self (by omega)
    obtain ⟨s1, m1, e2, l1, z1⟩ := hb m.length ((s.set kk (some (iD k))).set cc (some (.ref m.length))) (m ++ [Cell.lst [.int a, .int b']]) hs (by rw [List.length_set, List.length_set]; exact hl) (by rw [List.getElem?_set_ne h0c]; exact g0) (List.getElem?_set_self (by rw [List.length_set]; omega))
    obtain ⟨s2, m2, e3, l2, z2⟩ := outer h1 ns L kk cc hkk hcc h0k h0c hkc b hb items s1 m1 (fun k hk => hi k (List.mem_cons_of_mem _ hk)) l1 z1
    refine ⟨s2, m2, ?_, l2, z2⟩
    have e0 : loopF Γ.con (callN Γ (n + 1)) false [kk] (.seq (.asg (.nm cc) (.call "_law_source" (.cons (.v 0) (.cons (.v kk) .nil)))) b) (iD k) s m = .ok (.nx s1) m1 := by
      show evS Γ.con (callN Γ (n + 1)) (.seq (.asg (.nm cc) (.call "_law_source" (.cons (.v 0) (.cons (.v kk) .nil)))) b) (s.set kk (some (iD k))) m = _
      rw [y_seq, y_asg, x_call, x_cons, x_v, g0]
      simp only [x_bind, x_cons, x_v, gk, x_nil]
      have e1' : callN Γ (n + 1) "_law_source" [.scr (ns.map .int), iD k] m = .ok (.ref m.length) (m ++ [.lst [.int a, .int b']]) := e1
      rw [e1']
      have hc2 : cc < (s.set kk (some (iD k))).length := by rw [List.length_set]; omega
      simp only [x_bind, y_nm, hc2, if_true]
      exact e2
    rw [List.map_cons, forL, e0]
    exact e3
/-- for turn in range(T): tb -/
theorem turns (S0 : Option D) (L cc tt : Nat) (htt : tt < L) (h0t : tt ≠ 0) (hct : tt ≠ cc) (T : Nat) (hT : T ≤ 1000) (tb : S) (cl : Str → List D → Mem → R D) (G : Str → Option D)
    (hb : ∀ (c : Nat) (s : Sl) (m : Mem), SrcAt m c → s.length = L → s[0]? = some S0 → s[cc]? = some (some (.ref c)) → ∃ s' m', evS G cl tb s m = .ok (.nx s') m' ∧ SrcAt m' c ∧ s'.length = L ∧ s'[0]? = some S0 ∧ s'[cc]? = some (some (.ref c)))
    (c : Nat) (s : Sl) (m : Mem) (hs : SrcAt m c) (hl : s.length = L) (h0 : s[0]? = some S0) (hc : s[cc]? = some (some (.ref c))) :
    ∃ s' m', evS G cl (.loop false [tt] (.rng (.cons (.c (.int T)) .nil)) tb) s m = .ok (.nx s') m' ∧ SrcAt m' c ∧ s'.length = L ∧ s'[0]? = some S0 ∧ s'[cc]? = some (some (.ref c)) := by
  have hr := semR1 (j := (T : Int)) (by omega) (by omega)
  obtain ⟨s', m', e, r1, r2, r3, r4⟩ := forL_inv (f := loopF G cl false [tt] tb) (fun _ s m => SrcAt m c ∧ s.length = L ∧ s[0]? = some S0 ∧ s[cc]? = some (some (.ref c))) ((List.range (T : Int).toNat).map iD) 0 s m ⟨hs, hl, h0, hc⟩ (fun j d s m hd ⟨r1, r2, r3, r4⟩ => by
    obtain ⟨s1, m1, e, q⟩ := hb c (s.set tt (some d)) m r1 (by rw [List.length_set]; exact r2) (by rw [List.getElem?_set_ne h0t]; exact r3) (by rw [List.getElem?_set_ne hct]; exact r4)
    exact ⟨s1, m1, e, q⟩)
  refine ⟨s', m', ?_, r1, r2, r3, r4⟩
  rw [y_loop, x_irng, x_cons, x_c]
  simp only [x_bind, x_nil, hr, x_opt]
  exact e
/-! ### the package's functions on good lacings -/
variable {m : Mem}
structure Has (Γ : Gam) : Prop where
  isl : Γ.fn "is_lacing" = some f_is_lacing
  nl : Γ.fn "need_lacing" = some f_need_lacing
  ist : Γ.fn "is_start" = some f_is_start
  isb : Γ.fn "is_between" = some f_is_between
  st : Γ.con "STARTS" = some (.tup [.str "in", .str "out"])
  mr : Γ.con "MOST_ROWS" = some (.int 6)
structure HasH (Γ : Gam) : Prop extends Has Γ where
  hl : Γ.fn "holding" = some f_holding
  lo : Γ.fn "loose_of" = some f_loose_of
  sf : Γ.fn "stretches_of" = some f_stretches_of
  ia : Γ.fn "is_across" = some f_is_across
structure HasS (Γ : Gam) : Prop where
  sr : Γ.fn "_law_source" = some f_law_source
  dr : Γ.fn "_law_draw" = some f_law_draw
  ch : Γ.fn "_law_choice" = some f_law_choice
  od : Γ.fn "_law_order" = some f_law_order
  la : Γ.fn "_law_lacing" = some f_law_lacing
structure HasF (Γ : Gam) : Prop extends HasS Γ where
  fi : Γ.fn "_law_firm" = some f_law_firm
  pa : Γ.fn "_law_patterns" = some f_law_patterns
def lD (s : Str) (l : List Int) : D := .tup [.str s, .tup (l.map .int)]
def IO (s : Str) : Prop := s = "in" ∨ s = "out"
theorem Lac.len {l : List Int} {k : Nat} (h : Lac l k) : l.length ≤ 1000 := by have := h.1; have := h.2.2.1; omega
theorem p_needL (H : Has Γ) {s : Str} (hs : IO s) {l : List Int} {k : Nat} (hl : Lac l k) : callN Γ (n + 3) "need_lacing" [lD s l] m = .ok .non m := p_need H.nl H.isl H.ist H.isb H.st H.mr s hs l k hl
theorem p_holdingL (H : HasH Γ) {l : List Int} (hl : l.length ≤ 1000) : callN Γ (n + 3) "holding" [.tup (l.map .int)] m = .ok (.bl (holdB l)) m := p_holding H.hl H.lo H.sf H.ia l hl
theorem p_holdsL (H : HasH Γ) (hf : Γ.fn "holds" = some f_holds) {s : Str} (hs : IO s) {l : List Int} {k : Nat} (hl : Lac l k) : callN Γ (n + 4) "holds" [lD s l] m = .ok (.bl (holdB l)) m := by
  have e1 := p_needL (n := n) (m := m) H.toHas hs hl
  have e2 := p_holdingL (n := n) (m := m) H hl.len
  rw [callN_eq hf rfl]
  unfold lD at e1 ⊢
  simp [f_holds, a_holds, e1, e2]
theorem io_of {s : Str} (h : D.str s ∈ [D.str "in", D.str "out"]) : IO s := by
  simp only [List.mem_cons, List.not_mem_nil, or_false, D.str.injEq] at h
  exact h
theorem p_drawS (H : HasS Γ) {c : Nat} (hs : SrcAt m c) (N : Int) (h1 : 1 ≤ N) (h2 : N < 2 ^ 32) : ∃ (r : Nat) (m' : Mem), callN Γ (n + 1) "_law_draw" [.ref c, .int N] m = .ok (.int (r : Int)) m' ∧ (r : Int) < N ∧ Mx c m m' ∧ m'.length = m.length := by
  obtain ⟨r, m', e, x1, x2, x3, x4⟩ := p_draw (n := n) H.dr hs N h1 h2
  refine ⟨r.toNat, m', ?_, by omega, x3, x4⟩
  rw [e, Int.toNat_of_nonneg x1]
theorem p_lacingS (H : HasS Γ) {c : Nat} (hs : SrcAt m c) {k : Nat} (hk : 1 ≤ k) (hk2 : k ≤ 6) : ∃ (s : Str) (l : List Int) (m' : Mem), callN Γ (n + 3) "_law_lacing" [.ref c, .int k] m = .ok (lD s l) m' ∧ IO s ∧ Lac l k ∧ Mx c m m' := by
  obtain ⟨s, l, m', e, h⟩ := p_lacing (n := n) H.la H.ch H.od H.dr hs k hk hk2
  exact ⟨s, l, m', e, h⟩
theorem p_firmS (H : HasF Γ) {c : Nat} (hs : SrcAt m c) {k : Nat} (hk : 1 ≤ k) (hk2 : k ≤ 6) : ∃ (s : Str) (l : List Int) (m' : Mem), callN Γ (n + 14) "_law_firm" [.ref c, .int k] m = .ok (lD s l) m' ∧ IO s ∧ Lac l k ∧ holdB l = true ∧ Mx c m m' := by
  obtain ⟨s, l, m', e, h1, h2, h3, h4⟩ := p_firm (n := n) H.fi H.od H.pa H.ch H.dr hs k hk hk2
  exact ⟨s, l, m', e, h1, h2, by rw [hold_runs h2]; exact h3, h4⟩
theorem p_choiceL (H : HasS Γ) {c : Nat} (hs : SrcAt m c) (items : List D) (hl : 1 ≤ items.length) (hl2 : items.length ≤ 1000) : ∃ (y : D) (m' : Mem), callN Γ (n + 2) "_law_choice" [.ref c, .lst items] m = .ok y m' ∧ y ∈ items ∧ Mx c m m' ∧ m'.length = m.length :=
  p_choice (n := n) H.ch H.dr hs (.lst items) items (fun _ _ => rfl) hl hl2
end
/-- a new cell -/
theorem Mx.new {c : Nat} {m : Mem} (h : SrcAt m c) (x : Cell) : Mx c m (m ++ [x]) := by
  obtain ⟨a, b, e, h2⟩ := h
  exact ⟨by simp, ⟨a, b, by rw [List.getElem?_append_left (List.getElem?_eq_some_iff.mp e).1]; exact e, h2⟩, fun i hi _ => List.getElem?_append_left hi⟩
/-- a new cell is written -/
theorem Mx.wrote {c : Nat} {m0 m : Mem} (h : Mx c m0 m) (d : Nat) (hd : m0.length ≤ d) (hc : c < m0.length) (x : Cell) : Mx c m0 (m.set d x) := by
  obtain ⟨h1, ⟨a, b, e, h2⟩, h3⟩ := h
  refine ⟨by rw [List.length_set]; exact h1, ⟨a, b, by rw [List.getElem?_set_ne (by omega)]; exact e, h2⟩, fun i hi hic => ?_⟩
  rw [List.getElem?_set_ne (by omega)]
  exact h3 i hi hic
/-- 1 + min(len(script), N) -/
theorem rounds (ns : List Int) (N : Nat) (hN : N ≤ 900) : ∃ j : Nat, (1 : Int) + (if (N : Int) < (ns.length : Int) then (N : Int) else (ns.length : Int)) = j ∧ j ≤ N + 1 := by
  by_cases h : (N : Int) < (ns.length : Int)
  · exact ⟨N + 1, by rw [if_pos h]; omega, by omega⟩
  · exact ⟨ns.length + 1, by rw [if_neg h]; omega, by omega⟩
theorem range_le {j N : Nat} (h : j ≤ N) : ∀ k ∈ List.range j, k ≤ N := fun k hk => by have := List.mem_range.mp hk; omega
@[simp] theorem b_min2i {m : Mem} {i j : Int} : semBi .min [.int i, .int j] m = some (.int (if j < i then j else i)) := rfl
theorem deref_cell {m : Mem} {d : Nat} {l : List D} (h : m[d]? = some (.lst l)) : (D.ref d).deref m = .lst l := by
  simp only [D.deref]
  rw [h]
@[simp] theorem lim2 : 2 ≤ lim := by decide
@[simp] theorem lim3 : 3 ≤ lim := by decide
end LR

set_option Elab.async false
set_option linter.all false
set_option maxRecDepth 100000
set_option maxHeartbeats 4000000
namespace LR
open PySem PySem.Spec PyProof.Rows L2
def a_size_of : S := (.seq (.ret (.o2 .fdiv (.bi .len (.cons (.idx (.v 0) (.c (.int 1))) .nil)) (.c (.int 2)))) .nop)
def n_size_of : List PySem.Str := ["lacing"]
def f_size_of : Fn := ⟨1, 1, a_size_of⟩
def a_picture_of : S := (.seq (.ret (.bi .tuple (.cons (.nl false (.srd (.nl false (.comp (.tup (.cons (.bi .min (.cons (.v 2) (.cons (.v 3) .nil))) (.cons (.bi .max (.cons (.v 2) (.cons (.v 3) .nil))) .nil))) true [2, 3] (.seq (.nl false (.sl2 (.call "stretches_of" (.cons (.v 0) .nil)) (.v 1)))) .nop)))) .nil))) .nop)
def n_picture_of : List PySem.Str := ["holes", "first", "one", "other"]
def f_picture_of : Fn := ⟨4, 2, a_picture_of⟩
def a_outside_of : S := (.seq (.ret (.call "picture_of" (.cons (.idx (.v 0) (.c (.int 1))) (.cons (.ite (.o2 .eq (.idx (.v 0) (.c (.int 0))) (.c (.str "out"))) (.c (.int 1)) (.c (.int 0))) .nil)))) .nop)
def n_outside_of : List PySem.Str := ["lacing"]
def f_outside_of : Fn := ⟨1, 1, a_outside_of⟩
def a_inside_of : S := (.seq (.ret (.call "picture_of" (.cons (.idx (.v 0) (.c (.int 1))) (.cons (.ite (.o2 .eq (.idx (.v 0) (.c (.int 0))) (.c (.str "out"))) (.c (.int 0)) (.c (.int 1))) .nil)))) .nop)
def n_inside_of : List PySem.Str := ["lacing"]
def f_inside_of : Fn := ⟨1, 1, a_inside_of⟩
def a_partner : S := (.seq (.loop true [2, 3] (.seq (.v 0)) (.seq (.ite (.o2 .inn (.v 1) (.tup (.cons (.v 2) (.cons (.v 3) .nil)))) (.seq (.ret (.o2 .sub (.o2 .add (.v 2) (.v 3)) (.v 1))) .nop) .nop) .nop)) (.seq (.ret (.c .non)) .nop))
def n_partner : List PySem.Str := ["picture", "hole", "one", "other"]
def f_partner : Fn := ⟨4, 2, a_partner⟩
abbrev partner_b1 : S := (.seq (.ite (.o2 .inn (.v 1) (.tup (.cons (.v 2) (.cons (.v 3) .nil)))) (.seq (.ret (.o2 .sub (.o2 .add (.v 2) (.v 3)) (.v 1))) .nop) .nop) .nop)
def a_need_same : S := (.seq (.ite (.o2 .ne (.call "size_of" (.cons (.v 0) .nil)) (.call "size_of" (.cons (.v 1) .nil))) (.seq (.rse "InvalidPair") .nop) .nop) .nop)
def n_need_same : List PySem.Str := ["one", "other"]
def f_need_same : Fn := ⟨2, 2, a_need_same⟩
def a_outside : S := (.seq (.exp (.call "need_lacing" (.cons (.v 0) .nil))) (.seq (.ret (.call "outside_of" (.cons (.v 0) .nil))) .nop))
def n_outside : List PySem.Str := ["lacing"]
def f_outside : Fn := ⟨1, 1, a_outside⟩
def a_inside : S := (.seq (.exp (.call "need_lacing" (.cons (.v 0) .nil))) (.seq (.ret (.call "inside_of" (.cons (.v 0) .nil))) .nop))
def n_inside : List PySem.Str := ["lacing"]
def f_inside : Fn := ⟨1, 1, a_inside⟩
def a_parting_hole : S := (.seq (.exp (.call "need_lacing" (.cons (.v 0) .nil))) (.seq (.exp (.call "need_lacing" (.cons (.v 1) .nil))) (.seq (.exp (.call "need_same" (.cons (.v 0) (.cons (.v 1) .nil)))) (.seq (.loop false [2] (.rng (.cons (.bi .len (.cons (.idx (.v 0) (.c (.int 1))) .nil)) .nil)) (.seq (.ite (.o2 .ne (.call "partner" (.cons (.call "outside_of" (.cons (.v 0) .nil)) (.cons (.v 2) .nil))) (.call "partner" (.cons (.call "outside_of" (.cons (.v 1) .nil)) (.cons (.v 2) .nil)))) (.seq (.ret (.v 2)) .nop) .nop) .nop)) (.seq (.ret (.c .non)) .nop)))))
def n_parting_hole : List PySem.Str := ["one", "other", "hole"]
def f_parting_hole : Fn := ⟨3, 2, a_parting_hole⟩
abbrev parting_hole_b1 : S := (.seq (.ite (.o2 .ne (.call "partner" (.cons (.call "outside_of" (.cons (.v 0) .nil)) (.cons (.v 2) .nil))) (.call "partner" (.cons (.call "outside_of" (.cons (.v 1) .nil)) (.cons (.v 2) .nil)))) (.seq (.ret (.v 2)) .nop) .nop) .nop)
def a_law_seen : S := (.seq (.asg (.nm 2) (.nl true (.disp (.nil)))) (.seq (.loop false [3] (.rng (.cons (.v 1) (.cons (.o2 .sub (.bi .len (.cons (.v 0) .nil)) (.c (.int 1))) (.cons (.c (.int 2)) .nil)))) (.seq (.exp (.app (.v 2) (.tup (.cons (.bi .min (.cons (.sl (.v 0) (.v 3) (.o2 .add (.v 3) (.c (.int 2)))) .nil)) (.cons (.bi .max (.cons (.sl (.v 0) (.v 3) (.o2 .add (.v 3) (.c (.int 2)))) .nil)) .nil))))) .nop)) (.seq (.ret (.bi .tuple (.cons (.nl false (.srd (.v 2))) .nil))) .nop)))
def n_law_seen : List PySem.Str := ["_law_holes", "_law_first", "_law_found", "_law_place"]
def f_law_seen : Fn := ⟨4, 2, a_law_seen⟩
abbrev law_seen_b1 : S := (.seq (.exp (.app (.v 2) (.tup (.cons (.bi .min (.cons (.sl (.v 0) (.v 3) (.o2 .add (.v 3) (.c (.int 2)))) .nil)) (.cons (.bi .max (.cons (.sl (.v 0) (.v 3) (.o2 .add (.v 3) (.c (.int 2)))) .nil)) .nil))))) .nop)
def a_law_outer : S := (.seq (.ret (.call "_law_seen" (.cons (.idx (.v 0) (.c (.int 1))) (.cons (.ite (.o2 .eq (.idx (.v 0) (.c (.int 0))) (.c (.str "out"))) (.c (.int 1)) (.c (.int 0))) .nil)))) .nop)
def n_law_outer : List PySem.Str := ["_law_lacing_here"]
def f_law_outer : Fn := ⟨1, 1, a_law_outer⟩
def a_law_inner : S := (.seq (.ret (.call "_law_seen" (.cons (.idx (.v 0) (.c (.int 1))) (.cons (.ite (.o2 .eq (.idx (.v 0) (.c (.int 0))) (.c (.str "out"))) (.c (.int 0)) (.c (.int 1))) .nil)))) .nop)
def n_law_inner : List PySem.Str := ["_law_lacing_here"]
def f_law_inner : Fn := ⟨1, 1, a_law_inner⟩
def a_law_partner : S := (.seq (.asg (.nm 2) (.nl false (.comp (.v 3) false [3] (.seq (.v 0)) (.o2 .inn (.v 1) (.v 3))))) (.seq (.ret (.ite (.o2 .eq (.v 2) (.nl false (.disp (.nil)))) (.c .non) (.o2 .sub (.o2 .add (.idx (.idx (.v 2) (.c (.int 0))) (.c (.int 0))) (.idx (.idx (.v 2) (.c (.int 0))) (.c (.int 1)))) (.v 1)))) .nop))
def n_law_partner : List PySem.Str := ["_law_picture", "_law_hole", "_law_found", "_law_pair_here"]
def f_law_partner : Fn := ⟨4, 2, a_law_partner⟩
/-! ### equality of what is told as data -/
structure Enc {α : Type} [DecidableEq α] (φ : α → D) (d : Nat) : Prop where
  eq : ∀ a b, PyData.eqv (φ a).py (φ b).py = decide (a = b)
  lay : ∀ a, (φ a).py.canLay0 = true
  dep : ∀ a, (φ a).py.depth ≤ d
section
variable {α β : Type} [DecidableEq α] [DecidableEq β] {φ : α → D} {ψ : β → D} {d e : Nat}
theorem Enc.shaped (E : Enc φ d) (hd : d ≤ 64) (a : α) : SeqAt.shaped (φ a).py = true := by
  unfold SeqAt.shaped
  rw [E.lay a, Bool.true_and]
  exact decide_eq_true (Nat.le_trans (E.dep a) hd)
theorem Enc.eqD (E : Enc φ d) (hd : d ≤ 64) (a b : α) : LR.eqD (φ a) (φ b) = some (decide (a = b)) := by
  unfold LR.eqD
  simp only [E.shaped hd, Bool.and_self, if_true, E.eq]
theorem Enc.all (E : Enc φ d) : (∀ a b : List α, PyData.eqvAll (pys (a.map φ)) (pys (b.map φ)) = decide (a = b)) ∧ (∀ a : List α, PyData.canLayAll0 (pys (a.map φ)) = true) ∧ ∀ a : List α, PyData.depthAll (pys (a.map φ)) ≤ d := by
  refine ⟨fun a => ?_, fun a => ?_, fun a => ?_⟩
  · induction a with
    | nil => intro b; cases b <;> simp [pys, PyData.eqvAll]
    | cons x a ih =>
      intro b
      cases b with
      | nil => simp [pys, PyData.eqvAll]
      | cons y b =>
        simp only [List.map_cons, pys, PyData.eqvAll, E.eq, ih b]
        rw [Bool.eq_iff_iff]
        simp
  · induction a with
    | nil => simp [pys, PyData.canLayAll0]
    | cons x a ih => simp only [List.map_cons, pys, PyData.canLayAll0, E.lay, ih, Bool.and_self]
  · induction a with
    | nil => simp [pys, PyData.depthAll]
    | cons x a ih =>
      simp only [List.map_cons, pys, PyData.depthAll]
      exact Nat.max_le.mpr ⟨E.dep x, ih⟩
theorem Enc.lst (E : Enc φ d) : Enc (fun l : List α => D.lst (l.map φ)) (d + 1) := by
  obtain ⟨h1, h2, h3⟩ := E.all
  refine ⟨fun a b => ?_, fun a => ?_, fun a => ?_⟩
  · simp only [D.py, PyData.eqv, h1]
  · simp only [D.py, PyData.canLay0, h2]
  · simp only [D.py, PyData.depth]
    have := h3 a
    omega
theorem Enc.tup (E : Enc φ d) : Enc (fun l : List α => D.tup (l.map φ)) (d + 1) := by
  obtain ⟨h1, h2, h3⟩ := E.all
  refine ⟨fun a b => ?_, fun a => ?_, fun a => ?_⟩
  · simp only [D.py, PyData.eqv, h1]
  · simp only [D.py, PyData.canLay0, h2]
  · simp only [D.py, PyData.depth]
    have := h3 a
    omega
theorem Enc.pair (E : Enc φ d) (F : Enc ψ e) : Enc (fun p : α × β => D.tup [φ p.1, ψ p.2]) (max d e + 1) := by
  refine ⟨fun a b => ?_, fun a => ?_, fun a => ?_⟩
  · simp only [D.py, pys, PyData.eqv, PyData.eqvAll, E.eq, F.eq]
    rw [Bool.eq_iff_iff]
    simp [Prod.ext_iff]
  · simp only [D.py, pys, PyData.canLay0, PyData.canLayAll0, E.lay, F.lay, Bool.and_self]
  · simp only [D.py, pys, PyData.depth, PyData.depthAll]
    have h1 := E.dep a.1
    have h2 := F.dep a.2
    omega
end
theorem encInt : Enc D.int 0 := ⟨fun a b => by simp only [D.py, PyData.eqv]; rw [Bool.eq_iff_iff]; simp, fun a => rfl, fun a => by simp [D.py, PyData.depth]⟩
def stS (b : Bool) : Str := if b then "out" else "in"
theorem encB : Enc (fun b => D.str (stS b)) 0 := ⟨fun a b => by cases a <;> cases b <;> rfl, fun a => by cases a <;> decide +kernel, fun a => by simp [D.py, PyData.depth]⟩
def oD : Option Int → D
  | none => .non
  | some i => .int i
theorem encO : Enc oD 0 := ⟨fun a b => by rw [Bool.eq_iff_iff]; cases a <;> cases b <;> simp [oD, D.py, PyData.eqv], fun a => by cases a <;> rfl, fun a => by cases a <;> simp [oD, D.py, PyData.depth]⟩
theorem encP : Enc pD 1 := encInt.pair encInt
theorem encT : Enc tD 1 := encInt.tup
abbrev Lc := Str × List Int
def lbD (p : Bool × List Int) : D := lD (stS p.1) p.2
theorem encL : Enc lbD 2 := encB.pair encT
theorem in_out : (("in" : Str) = "out") = False := by simp only [eq_iff_iff, iff_false]; decide +kernel
theorem out_in : (("out" : Str) = "in") = False := by simp only [eq_iff_iff, iff_false]; decide +kernel
@[simp] theorem eqS_oo : eqD (.str "out") (.str "out") = some true := by decide +kernel
@[simp] theorem eqS_io : eqD (.str "in") (.str "out") = some false := by decide +kernel
@[simp] theorem eqS_oi : eqD (.str "out") (.str "in") = some false := by decide +kernel
@[simp] theorem eqS_ii : eqD (.str "in") (.str "in") = some true := by decide +kernel
theorem eqD_oD (a b : Option Int) : eqD (oD a) (oD b) = some (decide (a = b)) := encO.eqD (by decide) a b
theorem eqD_pic (a b : List (Int × Int)) : eqD (.tup (a.map pD)) (.tup (b.map pD)) = some (decide (a = b)) := encP.tup.eqD (by decide) a b
theorem eqD_picL (a b : List (Int × Int)) : eqD (.lst (a.map pD)) (.lst (b.map pD)) = some (decide (a = b)) := encP.lst.eqD (by decide) a b
theorem eqD_T (a b : List Int) : eqD (.tup (a.map .int)) (.tup (b.map .int)) = some (decide (a = b)) := encT.eqD (by decide) a b
theorem der_oD (o : Option Int) (m : Mem) : (oD o).deref m = oD o := by cases o <;> rfl
/-! ### sorting pairs -/
def leII (p q : Int × Int) : Bool := decide (p.1 < q.1 ∨ (p.1 = q.1 ∧ p.2 ≤ q.2))
def sortP (l : List (Int × Int)) : List (Int × Int) := l.mergeSort leII
theorem sort_pairs (l : List (Int × Int)) (hl : l.length ≤ lim) : sortOk (l.map pD) = true ∧ sortD (l.map pD) = (sortP l).map pD := by
  constructor
  · unfold sortOk
    simp only [Bool.and_eq_true, Bool.or_eq_true, List.all_eq_true, decide_eq_true_eq, List.length_map]
    refine ⟨⟨.inl fun d hd => ?_, fun d hd => ⟨⟨?_, ?_⟩, fun e he => ?_⟩⟩, hl⟩
    · obtain ⟨p, _, rfl⟩ := List.mem_map.mp hd
      rfl
    · obtain ⟨p, _, rfl⟩ := List.mem_map.mp hd
      exact encP.shaped (by decide) p
    · obtain ⟨p, _, rfl⟩ := List.mem_map.mp hd
      exact Nat.le_trans (encP.dep p) (by decide)
    · obtain ⟨p, _, rfl⟩ := List.mem_map.mp hd
      obtain ⟨q, _, rfl⟩ := List.mem_map.mp he
      simp [pD, D.py, pys, PySem.W.alike, PySem.W.alikeAll]
  · unfold sortD sortP
    rw [← PySem.W.sort_maps (r := leII) pD fun a _ b _ => ?_]
    have h := congrFun (congrFun (PySem.W.dataLe_ii (β := Int × Int) (·.1) (·.2)) a) b
    have e : PySem.W.dataLe false D.py (pD a) (pD b) = PySem.W.dataLe false (fun b : Int × Int => .tuple [.int b.1, .int b.2]) a b := by
      simp [PySem.W.dataLe_eq, pD, D.py, pys]
    rw [e, h]
    rfl
/-! ### pictures -/
def mm (p : Int × Int) : Int × Int := (if p.2 < p.1 then p.2 else p.1, if p.2 > p.1 then p.2 else p.1)
def rawI (hs : List Int) (f : Nat) : List (Int × Int) := (evry ((prs hs).drop f)).map mm
def picI (hs : List Int) (f : Nat) : List (Int × Int) := sortP (rawI hs f)
theorem evry_map {α β : Type} (g : α → β) : ∀ l : List α, evry (l.map g) = (evry l).map g
  | [] => by simp [evry]
  | [a] => by simp [evry]
  | a :: b :: l => by simp [evry, evry_map g l]
theorem prs_get : ∀ {l : List Int} {i : Nat} {p : Int × Int}, (prs l)[i]? = some p ↔ l[i]? = some p.1 ∧ l[i + 1]? = some p.2
  | [], i, p => by simp [prs]
  | [a], i, p => by simp [prs]
  | a :: b :: l, 0, p => by
    simp only [prs, List.getElem?_cons_zero, List.getElem?_cons_succ, Option.some.injEq]
    exact ⟨fun h => by rw [← h]; exact ⟨rfl, rfl⟩, fun ⟨h1, h2⟩ => Prod.ext h1 h2⟩
  | a :: b :: l, i + 1, p => by
    simp only [prs, List.getElem?_cons_succ]
    have := prs_get (l := b :: l) (i := i) (p := p)
    simpa using this
theorem raw_len (hs : List Int) (f : Nat) : (rawI hs f).length = (hs.length - 1 - f + 1) / 2 := by
  unfold rawI
  rw [List.length_map, evry_len, List.length_drop, prs_len]
theorem pic_len (hs : List Int) (f : Nat) : (picI hs f).length = (hs.length - 1 - f + 1) / 2 := by
  unfold picI sortP
  rw [List.length_mergeSort, raw_len]
theorem raw_get {hs : List Int} {f j : Nat} {a b : Int} (h1 : hs[f + 2 * j]? = some a) (h2 : hs[f + 2 * j + 1]? = some b) : (rawI hs f)[j]? = some (mm (a, b)) := by
  unfold rawI
  rw [List.getElem?_map, evry_get, List.getElem?_drop, prs_get (p := (a, b)) |>.mpr ⟨h1, h2⟩]
  rfl
@[simp] theorem b_max2T {m : Mem} {i j : Int} : semBi .max [.tup [.int i, .int j]] m = some (.int (if i < j then j else i)) := rfl
structure HasP (Γ : Gam) : Prop where
  sf : Γ.fn "stretches_of" = some f_stretches_of
  pi : Γ.fn "picture_of" = some f_picture_of
  oo : Γ.fn "outside_of" = some f_outside_of
  pa : Γ.fn "partner" = some f_partner
structure HasQ (Γ : Gam) : Prop where
  se : Γ.fn "_law_seen" = some f_law_seen
  ou : Γ.fn "_law_outer" = some f_law_outer
section
variable {Γ : Gam} {n : Nat} {m : Mem}
theorem p_picture (H : HasP Γ) (hs : List Int) (hl : hs.length ≤ 1000) (f : Nat) : callN Γ (n + 2) "picture_of" [.tup (hs.map .int), .int f] m = .ok (.tup ((picI hs f).map pD)) m := by
  have e1 := p_stretches_of (n := n) (m := m) H.sf hs (Nat.le_trans hl (by decide))
  have hc := compL_map (f := compF Γ.con (callN Γ (n + 1)) (.tup (.cons (.bi .min (.cons (.v 2) (.cons (.v 3) .nil))) (.cons (.bi .max (.cons (.v 2) (.cons (.v 3) .nil))) .nil))) true [2, 3] .nop [some (.tup (hs.map .int)), some (.int f), none, none]) pD (fun _ => true) (fun p => pD (mm p)) (fun p m => by
    simp [compF, E.isNop, pD, mm]) (evry ((prs hs).drop f)) [] m
  rw [List.filter_eq_self.mpr fun _ _ => rfl] at hc
  have hr : (evry ((prs hs).drop f)).map (fun p => pD (mm p)) = (rawI hs f).map pD := by unfold rawI; rw [List.map_map]; rfl
  rw [hr] at hc
  have hlen : (rawI hs f).length ≤ lim := by rw [raw_len]; show _ ≤ 1000000; omega
  obtain ⟨k1, k2⟩ := sort_pairs (rawI hs f) hlen
  have hd : evry (((prs hs).map pD).drop f) = (evry ((prs hs).drop f)).map pD := by rw [← List.map_drop, evry_map]
  have hl2 : (evry ((prs hs).drop f)).length ≤ lim := by
    have : (rawI hs f).length = (evry ((prs hs).drop f)).length := by unfold rawI; rw [List.length_map]
    omega
  rw [callN_eq H.pi rfl]
  simp only [List.nil_append] at hc
  simp -implicitDefEqProofs [f_picture_of, a_picture_of, e1, hd, hl2, hc, semN1, k1, k2, picI, -List.map_drop]
def fO (s : Str) : Nat := if s = "out" then 1 else 0
def fI (s : Str) : Nat := if s = "out" then 0 else 1
def outI (p : Lc) : List (Int × Int) := picI p.2 (fO p.1)
def inI (p : Lc) : List (Int × Int) := picI p.2 (fI p.1)
def picD (l : List (Int × Int)) : D := .tup (l.map pD)
theorem p_outside_of (H : HasP Γ) {s : Str} (hS : IO s) (hs : List Int) (hl : hs.length ≤ 1000) : callN Γ (n + 3) "outside_of" [lD s hs] m = .ok (picD (outI (s, hs))) m := by
  have e := p_picture (n := n) (m := m) H hs hl (fO s)
  rw [callN_eq H.oo rfl]
  unfold fO at e
  unfold lD picD outI fO
  rcases hS with rfl | rfl
  · simp [in_out] at e ⊢
    simp [f_outside_of, a_outside_of, e]
  · simp at e ⊢
    simp [f_outside_of, a_outside_of, e]
theorem p_inside_of (H : HasP Γ) (hio : Γ.fn "inside_of" = some f_inside_of) {s : Str} (hS : IO s) (hs : List Int) (hl : hs.length ≤ 1000) : callN Γ (n + 3) "inside_of" [lD s hs] m = .ok (picD (inI (s, hs))) m := by
  have e := p_picture (n := n) (m := m) H hs hl (fI s)
  rw [callN_eq hio rfl]
  unfold fI at e
  unfold lD picD inI fI
  rcases hS with rfl | rfl
  · simp [in_out] at e ⊢
    simp [f_inside_of, a_inside_of, e]
  · simp at e ⊢
    simp [f_inside_of, a_inside_of, e]
/-! ### the law's own pictures -/
theorem semR32 {i j : Int} (h : -(2 ^ 62) ≤ i) (h2 : i ≤ 1000000) (h3 : -(2 ^ 62) ≤ j) (h4 : j ≤ 1000000) (hn : (j - i).toNat ≤ lim) : semR [.int i, .int j, .int 2] = some (rngs i ((j - i + 1) / 2).toNat 2) := by
  have e : decide ((2 : Int) = -1) = false := by decide
  have e3 : decide ((j - i).toNat ≤ lim) = true := decide_eq_true hn
  simp only [semR]
  rw [bnd_ok h h2, bnd_ok h3 h4, e, decide_true, e3]
  rfl
theorem p_law_seen (h0 : Γ.fn "_law_seen" = some f_law_seen) (hs : List Int) (hl1 : 1 ≤ hs.length) (hl : hs.length ≤ 1000) (f : Nat) (hf : f ≤ 1) : callN Γ (n + 1) "_law_seen" [.tup (hs.map .int), .int f] m = .ok (picD (picI hs f)) (m ++ [.lst ((rawI hs f).map pD)]) := by
  have hr := semR32 (i := (f : Int)) (j := (hs.length : Int) - 1) (by omega) (by omega) (by omega) (by omega) (by show _ ≤ 1000000; omega)
  have hN : (((hs.length : Int) - 1 - (f : Int) + 1) / 2).toNat = (rawI hs f).length := by rw [raw_len]; omega
  rw [hN] at hr
  have hlen : (rawI hs f).length ≤ lim := by rw [raw_len]; show _ ≤ 1000000; omega
  obtain ⟨s', m', e, o3, rfl, rfl⟩ := forL_inv (f := loopF Γ.con (callN Γ n) false [3] law_seen_b1) (fun j s m' => ∃ o3, s = [some (.tup (hs.map .int)), some (.int (f : Int)), some (.ref m.length), o3] ∧ m' = m ++ [.lst (((rawI hs f).take j).map pD)])
    (rngs (f : Int) (rawI hs f).length 2) 0 [some (.tup (hs.map .int)), some (.int (f : Int)), some (.ref m.length), none] (m ++ [.lst []]) ⟨none, rfl, by simp⟩ (by
      rintro j d s m' hd ⟨o3, rfl, rfl⟩
      unfold rngs at hd
      rw [List.getElem?_map] at hd
      obtain ⟨j', hj', rfl⟩ := Option.map_eq_some_iff.mp hd
      obtain ⟨hj3, hj4⟩ := List.getElem?_eq_some_iff.mp hj'
      rw [List.getElem_range] at hj4
      rw [List.length_range] at hj3
      subst hj4
      rw [Nat.zero_add]
      have hj5 := hj3
      rw [raw_len] at hj5
      have h1 : hs[f + 2 * j]? = some (hs[f + 2 * j]'(by omega)) := List.getElem?_eq_getElem (by omega)
      have h2 : hs[f + 2 * j + 1]? = some (hs[f + 2 * j + 1]'(by omega)) := List.getElem?_eq_getElem (by omega)
      generalize hs[f + 2 * j]'(by omega) = a at h1
      generalize hs[f + 2 * j + 1]'(by omega) = b at h2
      have hg := raw_get h1 h2
      have c := cut_natI (hs.map .int) ((f : Int) + (j : Int) * 2) ((f : Int) + (j : Int) * 2 + 2) (by omega) (by omega)
      have hsl : List.take (((f : Int) + (j : Int) * 2 + 2).toNat - ((f : Int) + (j : Int) * 2).toNat) (List.drop ((f : Int) + (j : Int) * 2).toNat (hs.map D.int)) = [.int a, .int b] := by
        rw [show ((f : Int) + (j : Int) * 2).toNat = f + 2 * j by omega, show ((f : Int) + (j : Int) * 2 + 2).toNat - (f + 2 * j) = 2 by omega]
        refine List.ext_getElem? fun i => ?_
        rw [List.getElem?_take, List.getElem?_drop, List.getElem?_map]
        match i with
        | 0 => simp [h1]
        | 1 => rw [if_pos (by decide), h2]; rfl
        | i + 2 => rw [if_neg (by omega)]; rfl
      rw [hsl] at c
      have gc : (m ++ [Cell.lst (((rawI hs f).take j).map pD)])[m.length]? = some (.lst (((rawI hs f).take j).map pD)) := by rw [List.getElem?_append_right (Nat.le_refl _)]; simp
      have iL := isL_ref gc
      have ap := appD_ref (y := pD (mm (a, b))) gc (by rw [List.length_map, List.length_take]; omega)
      have hm : (m ++ [Cell.lst (((rawI hs f).take j).map pD)]).set m.length (.lst (((rawI hs f).take j).map pD ++ [pD (mm (a, b))])) = m ++ [Cell.lst (((rawI hs f).take (j + 1)).map pD)] := by
        rw [List.take_add_one, hg]
        simp [List.set_append]
      rw [hm] at ap
      refine ⟨_, _, ?_, some (.int ((f : Int) + (j : Int) * 2)), rfl, rfl⟩
      have e0 : loopF Γ.con (callN Γ n) false [3] law_seen_b1 (.int ((f : Int) + (j : Int) * 2)) [some (.tup (hs.map .int)), some (.int (f : Int)), some (.ref m.length), o3] (m ++ [Cell.lst (((rawI hs f).take j).map pD)]) = evS Γ.con (callN Γ n) law_seen_b1 [some (.tup (hs.map .int)), some (.int (f : Int)), some (.ref m.length), some (.int ((f : Int) + (j : Int) * 2))] (m ++ [Cell.lst (((rawI hs f).take j).map pD)]) := rfl
      refine e0.trans ?_
      generalize m ++ [Cell.lst (((rawI hs f).take j).map pD)] = mj at iL ap ⊢
      have hp : pD (mm (a, b)) = .tup [.int (if b < a then b else a), .int (if a < b then b else a)] := rfl
      rw [hp] at ap
      simp -implicitDefEqProofs [law_seen_b1, iL, pO, E.isNop, semPart, semSl, c, ap])
  have hlr : (rngs (f : Int) (rawI hs f).length 2).length = (rawI hs f).length := by simp [rngs]
  rw [hlr, Nat.zero_add, List.take_length] at e
  have gc : (m ++ [Cell.lst ((rawI hs f).map pD)])[m.length]? = some (.lst ((rawI hs f).map pD)) := by rw [List.getElem?_append_right (Nat.le_refl _)]; simp
  obtain ⟨k1, k2⟩ := sort_pairs (rawI hs f) hlen
  have hls : (D.ref m.length).seq (m ++ [Cell.lst ((rawI hs f).map pD)]) = some ((rawI hs f).map pD) := by
    simp only [D.seq]
    rw [gc]
  rw [callN_eq h0 rfl]
  generalize m ++ [Cell.lst ((rawI hs f).map pD)] = mf at e hls ⊢
  generalize rngs (f : Int) (rawI hs f).length 2 = its at hr e
  simp -implicitDefEqProofs [f_law_seen, a_law_seen, hr, e, semN1, hls, k1, k2, picI, picD]
theorem p_law_outer (H : HasQ Γ) {s : Str} (hS : IO s) (hs : List Int) (hl1 : 1 ≤ hs.length) (hl : hs.length ≤ 1000) : callN Γ (n + 2) "_law_outer" [lD s hs] m = .ok (picD (outI (s, hs))) (m ++ [.lst ((rawI hs (fO s)).map pD)]) := by
  have e := p_law_seen (n := n) (m := m) H.se hs hl1 hl (fO s) (by unfold fO; split <;> omega)
  rw [callN_eq H.ou rfl]
  unfold fO at e ⊢
  unfold lD outI fO
  rcases hS with rfl | rfl
  · simp [in_out] at e ⊢
    simp [f_law_outer, a_law_outer, e]
  · simp at e ⊢
    simp [f_law_outer, a_law_outer, e]
theorem p_law_inner (h0 : Γ.fn "_law_seen" = some f_law_seen) (h1 : Γ.fn "_law_inner" = some f_law_inner) {s : Str} (hS : IO s) (hs : List Int) (hl1 : 1 ≤ hs.length) (hl : hs.length ≤ 1000) : callN Γ (n + 2) "_law_inner" [lD s hs] m = .ok (picD (inI (s, hs))) (m ++ [.lst ((rawI hs (fI s)).map pD)]) := by
  have e := p_law_seen (n := n) (m := m) h0 hs hl1 hl (fI s) (by unfold fI; split <;> omega)
  rw [callN_eq h1 rfl]
  unfold fI at e ⊢
  unfold lD inI fI
  rcases hS with rfl | rfl
  · simp [in_out] at e ⊢
    simp [f_law_inner, a_law_inner, e]
  · simp at e ⊢
    simp [f_law_inner, a_law_inner, e]
end
end LR

set_option Elab.async false
set_option linter.all false
set_option maxRecDepth 100000
set_option maxHeartbeats 4000000
namespace LR
open PySem PySem.Spec PyProof.Rows L2
theorem forL_find {f : D → Sl → Mem → R Fl} {α : Type} (φ : α → D) (S : Option α → Sl) (p : α → Bool) (v : α → D) : ∀ (l : List α) (o : Option α) (m : Mem), (∀ (a : α) (o : Option α) (m : Mem), a ∈ l → f (φ a) (S o) m = if p a then .ok (.rt (v a)) m else .ok (.nx (S (some a))) m) → ∃ o', forL f (l.map φ) (S o) m = .ok (match l.find? p with | some a => .rt (v a) | none => .nx (S o')) m
  | [], o, m, _ => ⟨o, rfl⟩
  | a :: l, o, m, hf => by
    rw [List.map_cons, forL, hf a o m List.mem_cons_self]
    cases hp : p a with
    | true => exact ⟨o, by simp [hp]⟩
    | false =>
      obtain ⟨o', h⟩ := forL_find φ S p v l (some a) m fun a o m h => hf a o m (List.mem_cons_of_mem _ h)
      refine ⟨o', ?_⟩
      simp only [Bool.false_eq_true, if_false, x_bind, List.find?_cons, hp]
      exact h
def hasI (h : Int) (p : Int × Int) : Bool := decide (h = p.1 ∨ h = p.2)
def partI (pic : List (Int × Int)) (h : Int) : Option Int := (pic.find? (hasI h)).map fun p => p.1 + p.2 - h
theorem inD_pair (h a b : Int) : inD (.int h) [.int a, .int b] = some (decide (h = a ∨ h = b)) := by
  have := inD_ints h [a, b]
  simpa using this
theorem der_picD (l : List (Int × Int)) (m : Mem) : (picD l).deref m = picD l := rfl
theorem eqD_picD (a b : List (Int × Int)) : eqD (picD a) (picD b) = some (decide (a = b)) := eqD_pic a b
structure HasPs (Γ : Gam) : Prop extends HasP Γ where
  so : Γ.fn "size_of" = some f_size_of
  ns : Γ.fn "need_same" = some f_need_same
  os : Γ.fn "outside" = some f_outside
  ph : Γ.fn "parting_hole" = some f_parting_hole
section
variable {Γ : Gam} {n : Nat} {m : Mem}
@[simp] theorem x_finE {x : Xc} : fin (.exc x m) = .exc x m := rfl
theorem p_partner (h0 : Γ.fn "partner" = some f_partner) (pic : List (Int × Int)) (hl : pic.length ≤ 1000) (h : Int) : callN Γ (n + 1) "partner" [picD pic, .int h] m = .ok (oD (partI pic h)) m := by
  obtain ⟨o', key⟩ := forL_find (f := loopF Γ.con (callN Γ n) true [2, 3] partner_b1) pD (fun o => [some (picD pic), some (.int h), o.map (fun p => .int p.1), o.map (fun p => .int p.2)]) (hasI h) (fun p => .int (p.1 + p.2 - h)) pic none m (fun p o m hp => by
    obtain ⟨a, b⟩ := p
    have hi := inD_pair h a b
    have e0 : loopF Γ.con (callN Γ n) true [2, 3] partner_b1 (pD (a, b)) [some (picD pic), some (.int h), o.map (fun p => .int p.1), o.map (fun p => .int p.2)] m = evS Γ.con (callN Γ n) partner_b1 [some (picD pic), some (.int h), some (.int a), some (.int b)] m := rfl
    rw [e0]
    unfold hasI
    by_cases hc : h = a ∨ h = b
    · rw [decide_eq_true hc] at hi ⊢
      simp -implicitDefEqProofs [partner_b1, hi]
    · rw [decide_eq_false hc] at hi ⊢
      simp -implicitDefEqProofs [partner_b1, hi])
  rw [callN_eq h0 rfl]
  have hlim : pic.length ≤ lim := Nat.le_trans hl (by decide)
  simp only [Option.map_none] at key
  unfold picD at key ⊢
  unfold partI
  cases hf : pic.find? (hasI h) with
  | none =>
    rw [hf] at key
    simp -implicitDefEqProofs [f_partner, a_partner, key, oD, hlim]
  | some p =>
    rw [hf] at key
    simp -implicitDefEqProofs [f_partner, a_partner, key, oD, hlim]
theorem p_law_partner (h0 : Γ.fn "_law_partner" = some f_law_partner) (pic : List (Int × Int)) (hl : pic.length ≤ 1000) (h : Int) : callN Γ (n + 1) "_law_partner" [picD pic, .int h] m = .ok (oD (partI pic h)) m := by
  have hc := compL_map (f := compF Γ.con (callN Γ n) (.v 3) false [3] (.o2 .inn (.v 1) (.v 3)) [some (picD pic), some (.int h), none, none]) pD (hasI h) pD (fun p m => by
    obtain ⟨a, b⟩ := p
    have hi := inD_pair h a b
    unfold hasI
    by_cases hc : h = a ∨ h = b
    · rw [decide_eq_true hc] at hi ⊢
      simp -implicitDefEqProofs [compF, E.isNop, pD, hi]
    · rw [decide_eq_false hc] at hi ⊢
      simp -implicitDefEqProofs [compF, E.isNop, pD, hi]) pic [] m
  simp only [List.nil_append] at hc
  have hlim : pic.length ≤ lim := Nat.le_trans hl (by decide)
  have hlim2 : (pic.filter (hasI h)).length ≤ lim := Nat.le_trans (List.length_filter_le _ _) hlim
  rw [callN_eq h0 rfl]
  unfold picD at hc ⊢
  unfold partI
  rw [← List.head?_filter]
  have q := eqD_picL (pic.filter (hasI h)) []
  cases hf : pic.filter (hasI h) with
  | nil =>
    rw [hf] at hc q
    simp only [List.map_nil, decide_true] at hc q
    simp -implicitDefEqProofs [f_law_partner, a_law_partner, hc, q, oD, hlim]
  | cons p r =>
    obtain ⟨a, b⟩ := p
    rw [hf] at hc q hlim2
    rw [decide_eq_false (by simp)] at q
    simp only [List.map_cons, List.map_nil, pD] at hc q
    simp only [List.length_cons] at hlim2
    simp -implicitDefEqProofs [f_law_partner, a_law_partner, hc, q, oD, hlim, hlim2]
theorem p_size_of (h0 : Γ.fn "size_of" = some f_size_of) (s : Str) {l : List Int} {k : Nat} (hl : Lac l k) : callN Γ (n + 1) "size_of" [lD s l] m = .ok (.int (k : Int)) m := by
  have h1 := hl.1
  rw [callN_eq h0 rfl]
  have : (2 * (k : Int)) / 2 = k := by omega
  unfold lD
  simp [f_size_of, a_size_of, h1, this]
theorem p_need_same (h0 : Γ.fn "size_of" = some f_size_of) (h1 : Γ.fn "need_same" = some f_need_same) (s t : Str) {l r : List Int} {k j : Nat} (hl : Lac l k) (hr : Lac r j) : callN Γ (n + 2) "need_same" [lD s l, lD t r] m = if k = j then .ok .non m else .exc ⟨"InvalidPair", []⟩ m := by
  have e1 := p_size_of (n := n) (m := m) h0 s hl
  have e2 := p_size_of (n := n) (m := m) h0 t hr
  rw [callN_eq h1 rfl]
  by_cases h : k = j
  · subst h
    simp [f_need_same, a_need_same, e1, e2]
  · have h' : ¬ ((k : Int) = (j : Int)) := by omega
    simp [f_need_same, a_need_same, e1, e2, h, h']
theorem p_outside (H : Has Γ) (HP : HasP Γ) (h0 : Γ.fn "outside" = some f_outside) {s : Str} (hs : IO s) {l : List Int} {k : Nat} (hl : Lac l k) : callN Γ (n + 4) "outside" [lD s l] m = .ok (picD (outI (s, l))) m := by
  have e1 := p_needL (n := n) (m := m) H hs hl
  have e2 := p_outside_of (n := n) (m := m) HP hs l hl.len
  rw [callN_eq h0 rfl]
  simp [f_outside, a_outside, e1, e2]
theorem p_inside (H : Has Γ) (HP : HasP Γ) (hio : Γ.fn "inside_of" = some f_inside_of) (h0 : Γ.fn "inside" = some f_inside) {s : Str} (hs : IO s) {l : List Int} {k : Nat} (hl : Lac l k) : callN Γ (n + 4) "inside" [lD s l] m = .ok (picD (inI (s, l))) m := by
  have e1 := p_needL (n := n) (m := m) H hs hl
  have e2 := p_inside_of (n := n) (m := m) HP hio hs l hl.len
  rw [callN_eq h0 rfl]
  simp [f_inside, a_inside, e1, e2]
def difP (a b : List (Int × Int)) (h : Nat) : Bool := decide (partI a (h : Int) ≠ partI b (h : Int))
def partN (a b : List (Int × Int)) (N : Nat) : Option Nat := (List.range N).find? (difP a b)
def oN (o : Option Nat) : D := oD (o.map fun (x : Nat) => (x : Int))
theorem difP_comm (a b : List (Int × Int)) : difP a b = difP b a := by
  funext h
  unfold difP
  rw [Bool.eq_iff_iff, decide_eq_true_eq, decide_eq_true_eq]
  exact ⟨fun h e => h e.symm, fun h e => h e.symm⟩
theorem partN_comm (a b : List (Int × Int)) (N : Nat) : partN a b N = partN b a N := by unfold partN; rw [difP_comm]
theorem partN_self (a : List (Int × Int)) (N : Nat) : partN a a N = none := by
  unfold partN
  rw [List.find?_eq_none]
  intro x _
  simp [difP]
theorem out_len (s : Str) {l : List Int} {k : Nat} (hl : Lac l k) : (outI (s, l)).length ≤ 1000 := by
  have := hl.len
  unfold outI
  rw [pic_len]
  show (l.length - 1 - fO s + 1) / 2 ≤ 1000
  omega
theorem p_parting (H : Has Γ) (HP : HasPs Γ) {s t : Str} (hs : IO s) (ht : IO t) {l r : List Int} {k : Nat} (hl : Lac l k) (hr : Lac r k) : callN Γ (n + 4) "parting_hole" [lD s l, lD t r] m = .ok (oN (partN (outI (s, l)) (outI (t, r)) (2 * k))) m := by
  have e1 := p_needL (n := n) (m := m) H hs hl
  have e2 := p_needL (n := n) (m := m) H ht hr
  have e3 := p_need_same (n := n + 1) (m := m) HP.so HP.ns s t hl hr
  rw [if_pos rfl] at e3
  have hk := hl.2.2.1
  have h1 := hl.1
  have hra := semR1 (j := 2 * (k : Int)) (by omega) (by omega)
  rw [show (2 * (k : Int)).toNat = 2 * k by omega] at hra
  obtain ⟨o', key⟩ := forL_find (f := loopF Γ.con (callN Γ (n + 3)) false [2] parting_hole_b1) iD (fun o => [some (lD s l), some (lD t r), o.map iD]) (difP (outI (s, l)) (outI (t, r))) iD (List.range (2 * k)) none m (fun j o m hj => by
    have a1 := p_outside_of (n := n) (m := m) HP.toHasP hs l hl.len
    have a2 := p_outside_of (n := n) (m := m) HP.toHasP ht r hr.len
    have b1 := p_partner (n := n + 2) (m := m) HP.pa (outI (s, l)) (out_len s hl) (j : Int)
    have b2 := p_partner (n := n + 2) (m := m) HP.pa (outI (t, r)) (out_len t hr) (j : Int)
    have q := eqD_oD (partI (outI (s, l)) (j : Int)) (partI (outI (t, r)) (j : Int))
    have e0 : loopF Γ.con (callN Γ (n + 3)) false [2] parting_hole_b1 (iD j) [some (lD s l), some (lD t r), o.map iD] m = evS Γ.con (callN Γ (n + 3)) parting_hole_b1 [some (lD s l), some (lD t r), some (.int (j : Int))] m := rfl
    rw [e0]
    unfold difP
    by_cases hc : partI (outI (s, l)) (j : Int) = partI (outI (t, r)) (j : Int)
    · rw [decide_eq_true hc] at q
      rw [if_neg (by simp [hc])]
      simp -implicitDefEqProofs [parting_hole_b1, a1, a2, b1, b2, der_oD, q, iD]
    · rw [decide_eq_false hc] at q
      rw [if_pos (by simp [hc])]
      simp -implicitDefEqProofs [parting_hole_b1, a1, a2, b1, b2, der_oD, q, iD])
  rw [callN_eq HP.ph rfl]
  simp only [Option.map_none] at key
  unfold partN oN
  generalize (List.range (2 * k)).map iD = its at hra key
  unfold lD at e1 e2 e3 key ⊢
  cases hf : (List.range (2 * k)).find? (difP (outI (s, l)) (outI (t, r))) with
  | none =>
    rw [hf] at key
    simp -implicitDefEqProofs [f_parting_hole, a_parting_hole, e1, e2, e3, h1, hra, key, oD]
  | some p =>
    rw [hf] at key
    simp -implicitDefEqProofs [f_parting_hole, a_parting_hole, e1, e2, e3, h1, hra, key, oD, iD]
theorem p_parting_exc (H : Has Γ) (HP : HasPs Γ) {s t : Str} (hs : IO s) (ht : IO t) {l r : List Int} {k j : Nat} (hl : Lac l k) (hr : Lac r j) (hne : k ≠ j) : callN Γ (n + 4) "parting_hole" [lD s l, lD t r] m = .exc ⟨"InvalidPair", []⟩ m := by
  have e1 := p_needL (n := n) (m := m) H hs hl
  have e2 := p_needL (n := n) (m := m) H ht hr
  have e3 := p_need_same (n := n + 1) (m := m) HP.so HP.ns s t hl hr
  rw [if_neg hne] at e3
  rw [callN_eq HP.ph rfl]
  simp [f_parting_hole, a_parting_hole, e1, e2, e3]
end
theorem Lac.turned {l : List Int} {k : Nat} (h : Lac l k) (j : Nat) : Lac (l.take j ++ (l.drop j).reverse) k := by
  have hp : (l.take j ++ (l.drop j).reverse).Perm l := by
    have : (l.take j ++ (l.drop j).reverse).Perm (l.take j ++ l.drop j) := (List.Perm.refl _).append (List.reverse_perm _)
    rwa [List.take_append_drop] at this
  obtain ⟨h1, h2, h3, h4, h5⟩ := h
  exact ⟨by rw [hp.length_eq]; exact h1, h2, h3, fun x hx => h4 x (hp.mem_iff.mp hx), hp.nodup_iff.mpr h5⟩
end LR

set_option Elab.async false
set_option linter.all false
set_option maxRecDepth 100000
set_option maxHeartbeats 4000000
namespace LR
open PySem PySem.Spec PyProof.Rows L2
section
variable {G : Str → Option D} {cl : Str → List D → Mem → R D} {s s1 : Sl} {m m1 : Mem} {a b : S}
theorem seq_nx (h : evS G cl a s m = .ok (.nx s1) m1) : evS G cl (.seq a b) s m = evS G cl b s1 m1 := by
  rw [y_seq, h]
  rfl
theorem y_frz {i d : Nat} {l : List D} (h : s[i]? = some (some (.ref d))) (h2 : m[d]? = some (.lst l)) : evS G cl (.frz i) s m = .ok (.nx (s.set i (some (.lst l)))) (m.set d .dead) := by
  rw [evS, h]
  simp only
  rw [h2]
end
theorem seq_cell {m : Mem} {d : Nat} {l : List D} (h : m[d]? = some (.lst l)) : (D.ref d).seq m = some l := by
  simp only [D.seq]
  rw [h]
theorem cell_mx {c d : Nat} {m m' : Mem} {x : Cell} (h : Mx c m m') (hd : m[d]? = some x) (hn : d ≠ c) : m'[d]? = some x := by
  rw [h.2.2 d (List.getElem?_eq_some_iff.mp hd).1 hn]
  exact hd
theorem src_set {m : Mem} {c d : Nat} {x : Cell} (h : SrcAt m c) (hn : d ≠ c) : SrcAt (m.set d x) c := by
  obtain ⟨a, b, e, h2⟩ := h
  exact ⟨a, b, by rw [List.getElem?_set_ne hn]; exact e, h2⟩
theorem mx_set {m0 m : Mem} {c d : Nat} {x : Cell} (h : SrcAt m c) (hn : d ≠ c) (hd : ∀ i, i < m0.length → i ≠ d) (h0 : Mx c m0 m) : Mx c m0 (m.set d x) :=
  ⟨by rw [List.length_set]; exact h0.1, src_set h hn, fun i hi hic => by rw [List.getElem?_set_ne (fun e => hd i hi e.symm)]; exact h0.2.2 i hi hic⟩
theorem compL_I {f : D → Mem → R (Option D)} {α : Type} (I : Mem → Prop) (φ : α → D) (p : α → Bool) (g : α → D) : ∀ (l : List α) (acc : List D) (m : Mem), I m → (∀ (a : α) (m : Mem), a ∈ l → I m → ∃ m', f (φ a) m = .ok (if p a then some (g a) else none) m' ∧ I m') → ∃ m', compL f (l.map φ) acc m = .ok (acc ++ (l.filter p).map g) m' ∧ I m'
  | [], acc, m, h, _ => ⟨m, by simp [compL], h⟩
  | a :: l, acc, m, h, hf => by
    obtain ⟨m1, e, h1⟩ := hf a m List.mem_cons_self h
    rw [List.map_cons, compL, e]
    cases hp : p a with
    | true =>
      obtain ⟨m2, e2, h2⟩ := compL_I I φ p g l (acc ++ [g a]) m1 h1 fun a m ha => hf a m (List.mem_cons_of_mem _ ha)
      refine ⟨m2, ?_, h2⟩
      simp only [if_true]
      rw [e2, List.filter_cons_of_pos hp]
      simp
    | false =>
      obtain ⟨m2, e2, h2⟩ := compL_I I φ p g l acc m1 h1 fun a m ha => hf a m (List.mem_cons_of_mem _ ha)
      refine ⟨m2, ?_, h2⟩
      simp only [Bool.false_eq_true, if_false]
      rw [e2, List.filter_cons_of_neg (by simp [hp])]
theorem enumD_gen {α : Type} (φ : α → D) : ∀ (l : List α) (n : Nat), enumD n (l.map φ) = (l.zipIdx n).map fun p => .tup [.int (p.2 : Int), φ p.1]
  | [], n => rfl
  | a :: l, n => by
    rw [List.map_cons, enumD, enumD_gen φ l (n + 1)]
    simp [List.zipIdx_cons]
/-- a live walk that changes nothing -/
theorem lopL_all {α : Type} {f : D → Sl → Mem → R Fl} {c : Nat} {m : Mem} (φ : α → D) (S : Option α → Sl) (L : List α) (hc : m[c]? = some (.lst (L.map φ))) (hf : ∀ a o, a ∈ L → f (φ a) (S o) m = .ok (.nx (S (some a))) m) : ∀ (d k i : Nat) (o : Option α), i + d = L.length → d < k → ∃ o', lopL c f k i (S o) m = .ok (.nx (S o')) m
  | 0, k + 1, i, o, h, _ => by
    refine ⟨o, ?_⟩
    rw [lopL, hc]
    simp only
    rw [List.getElem?_eq_none (by rw [List.length_map]; omega)]
  | d + 1, k + 1, i, o, h, hk => by
    have hi : i < L.length := by omega
    obtain ⟨o', e⟩ := lopL_all φ S L hc hf d k (i + 1) (some L[i]) (by omega) (by omega)
    refine ⟨o', ?_⟩
    rw [lopL, hc]
    simp only
    rw [List.getElem?_map, List.getElem?_eq_getElem hi]
    simp only [Option.map_some]
    rw [hf _ _ (List.getElem_mem hi)]
    exact e
theorem pic_sorted {l : List (Int × Int)} (h : l.Pairwise fun a b => leII a b = true) : sortP l = l := List.mergeSort_of_pairwise h
theorem refOf_cell {m : Mem} {d : Nat} {l : List D} (h : m[d]? = some (.lst l)) : refOf m (.ref d) = some d := by
  simp only [refOf]
  rw [h]
end LR

set_option Elab.async false
set_option linter.all false
set_option maxRecDepth 100000
set_option maxHeartbeats 4000000
namespace LR
open PySem PySem.Spec PyProof.Rows L2
/-! ### the rows of dicts and instances -/
section
variable {G : Str → Option D} {cl : Str → List D → Mem → R D} {s : Sl} {m : Mem} {a b : E} {es : Es} {x y : D}
@[simp] theorem x_tr1 : ev G cl (.tr1 a) s m = (ev G cl a s m).bind fun x m => opt m ((semR [x]).map .tup) := by rw [ev]
@[simp] theorem x_tr2 : ev G cl (.tr2 a b) s m = (ev G cl a s m).bind fun x m => (ev G cl b s m).bind fun y m => opt m ((semR [x, y]).map .tup) := by rw [ev]
@[simp] theorem x_cnt : ev G cl (.cnt a b) s m = (ev G cl a s m).bind fun x m => if isFl x then (ev G cl b s m).bind fun y m => opt m (cntD x y) else .err := by rw [ev]
@[simp] theorem x_dnw : ev G cl .dnw s m = .ok (.ref m.length) (m ++ [.dic []]) := by rw [ev]
@[simp] theorem x_dget : ev G cl (.dget a b) s m = (ev G cl a s m).bind fun x m => (ev G cl b s m).bind fun y m => opt m ((dicOf m x).bind fun kvs => (nkKey y).bind fun k => valD kvs k) := by rw [ev]
@[simp] theorem x_fld {C f : Str} : ev G cl (.fld a C f) s m = (ev G cl a s m).bind fun d m => opt m ((insOf m d).bind fun q => if q.1 = C then q.2.lookup f else none) := by rw [ev]
@[simp] theorem x_mk {C k : Str} : ev G cl (.mk C k es) s m = (evs G cl es s m).bind fun ds m => (cl k (.ref m.length :: ds) (m ++ [.ins C []])).bind fun r m' => match r with
    | .non => .ok (.ref m.length) m'
    | _ => .err := by rw [ev]; try rfl
@[simp] theorem x_mc {C f k : Str} : ev G cl (.mc a C f k es) s m = (ev G cl a s m).bind fun d m => match insOf m d with
    | some q => if q.1 = C ∧ (q.2.lookup f).isNone then (evs G cl es s m).bind fun ds m => cl k (d :: ds) m else .err
    | none => .err := by rw [ev]; try rfl
@[simp] theorem y_fas {C f : Str} : evS G cl (.fas a C f b) s m = (ev G cl b s m).bind fun y m => (ev G cl a s m).bind fun x m => (setF x C f y m).bind fun _ m => .ok (.nx s) m := by rw [evS]
@[simp] theorem y_dk {d : D} : asg1 G cl (.dk a b) d s m = (ev G cl a s m).bind fun x m => (ev G cl b s m).bind fun y m => (setK x y d m).bind fun _ m => .ok s m := by rw [asg1]
@[simp] theorem z_dinn : sem2 .dinn x y m = (dicOf m y).bind fun kvs => (nkKey x).map fun k => .bl (valD kvs k).isSome := rfl
@[simp] theorem z_dnin : sem2 .dnin x y m = (dicOf m y).bind fun kvs => (nkKey x).map fun k => .bl (!(valD kvs k).isSome) := rfl
theorem dicOf_cell {n : Nat} {kvs : List (NK × D)} (h : m[n]? = some (.dic kvs)) : dicOf m (.ref n) = some kvs := by
  simp only [dicOf]
  rw [h]
theorem insOf_cell {n : Nat} {C : Str} {fs : List (Str × D)} (h : m[n]? = some (.ins C fs)) : insOf m (.ref n) = some (C, fs) := by
  simp only [insOf]
  rw [h]
theorem setK_cell {n : Nat} {kvs : List (NK × D)} {k : NK} (h : m[n]? = some (.dic kvs)) (hk : nkKey x = some k) (hl : kvs.length < lim) (hn : valD kvs k = none) : setK (.ref n) x y m = .ok () (m.set n (.dic (kvs ++ [(k, y)]))) := by
  simp only [setK]
  rw [h]
  simp only
  rw [hk]
  simp only
  rw [if_pos ⟨hl, by rw [hn]; rfl⟩]
end
end LR

set_option Elab.async false
set_option linter.all false
set_option maxRecDepth 100000
set_option maxHeartbeats 4000000
namespace LR
open PySem PySem.Spec PyProof.Rows L2
/-- a table with classes -/
def mkC (co : List (Str × D)) (fs : List (Str × Fn)) (ex : List (Str × List (Str × Bool))) (mth : List (Str × Str × Str)) (fls : List (Str × Str)) : Gam := { con := fun x => tab x co, fn := fun x => tab x fs, exc := ex, mth := mth, fls := fls }
end LR

set_option Elab.async false
set_option linter.all false
set_option maxRecDepth 100000
set_option maxHeartbeats 4000000
namespace LR
open PySem PySem.Spec PyProof.Rows L2
/-! ### pictures: who leads to whom -/
theorem mem_raw {hs : List Int} {f : Nat} {p : Int × Int} : p ∈ rawI hs f ↔ ∃ (j : Nat) (a b : Int), hs[f + 2 * j]? = some a ∧ hs[f + 2 * j + 1]? = some b ∧ p = mm (a, b) := by
  constructor
  · intro h
    obtain ⟨i, hi, e⟩ := List.getElem_of_mem h
    rw [raw_len] at hi
    have h1 : hs[f + 2 * i]? = some (hs[f + 2 * i]'(by omega)) := List.getElem?_eq_getElem (by omega)
    have h2 : hs[f + 2 * i + 1]? = some (hs[f + 2 * i + 1]'(by omega)) := List.getElem?_eq_getElem (by omega)
    have g := raw_get h1 h2
    have g2 := List.getElem?_eq_getElem (l := rawI hs f) (i := i) (by rw [raw_len]; exact hi)
    rw [e, g] at g2
    exact ⟨i, _, _, h1, h2, (Option.some.inj g2).symm⟩
  · rintro ⟨j, a, b, h1, h2, rfl⟩
    exact List.mem_of_getElem? (raw_get h1 h2)
theorem pic_perm (hs : List Int) (f : Nat) : (picI hs f).Perm (rawI hs f) := List.mergeSort_perm _ _
theorem mem_pic {hs : List Int} {f : Nat} {p : Int × Int} : p ∈ picI hs f ↔ ∃ (j : Nat) (a b : Int), hs[f + 2 * j]? = some a ∧ hs[f + 2 * j + 1]? = some b ∧ p = mm (a, b) := by
  rw [(pic_perm hs f).mem_iff]
  exact mem_raw
theorem mm_cases (a b : Int) : mm (a, b) = (a, b) ∨ mm (a, b) = (b, a) := by
  unfold mm
  by_cases h : b < a
  · right
    have h2 : ¬ b > a := by omega
    simp only [if_pos h, if_neg h2]
  · left
    simp only [if_neg h]
    by_cases h2 : b > a
    · simp only [if_pos h2]
    · have : a = b := by omega
      subst this
      simp
theorem mm_lt {a b : Int} (h : a ≠ b) : (mm (a, b)).1 < (mm (a, b)).2 := by
  unfold mm
  by_cases h1 : b < a
  · have h2 : ¬ b > a := by omega
    simp only [if_pos h1, if_neg h2]
    exact h1
  · have h2 : b > a := by omega
    simp only [if_neg h1, if_pos h2]
    exact h2
theorem mm_sum (a b : Int) : (mm (a, b)).1 + (mm (a, b)).2 = a + b := by rcases mm_cases a b with h | h <;> rw [h] <;> simp <;> omega
theorem mm_has {a b x : Int} : hasI x (mm (a, b)) = true ↔ x = a ∨ x = b := by
  unfold hasI
  rw [decide_eq_true_eq]
  rcases mm_cases a b with h | h <;> rw [h] <;> simp
  exact or_comm
theorem at_inj {l : List Int} (nd : l.Nodup) {i j : Nat} {x : Int} (h1 : l[i]? = some x) (h2 : l[j]? = some x) : i = j := by
  obtain ⟨a1, a2⟩ := List.getElem?_eq_some_iff.mp h1
  obtain ⟨b1, b2⟩ := List.getElem?_eq_some_iff.mp h2
  exact (List.getElem_inj nd).mp (a2.trans b2.symm)
theorem part_iff {l : List Int} (nd : l.Nodup) (f : Nat) (x y : Int) : partI (picI l f) x = some y ↔ ∃ j, (l[f + 2 * j]? = some x ∧ l[f + 2 * j + 1]? = some y) ∨ (l[f + 2 * j]? = some y ∧ l[f + 2 * j + 1]? = some x) := by
  unfold partI
  rw [Option.map_eq_some_iff]
  constructor
  · rintro ⟨p, hp, hy⟩
    have hm := List.mem_of_find?_eq_some hp
    have hh := List.find?_some hp
    obtain ⟨j, a, b, h1, h2, rfl⟩ := mem_pic.mp hm
    rw [mm_sum] at hy
    rcases mm_has.mp hh with rfl | rfl
    · exact ⟨j, .inl ⟨h1, by rw [h2]; congr 1; omega⟩⟩
    · exact ⟨j, .inr ⟨by rw [h1]; congr 1; omega, h2⟩⟩
  · rintro ⟨j, h⟩
    obtain ⟨a, b, h1, h2, hx, hy⟩ : ∃ a b, l[f + 2 * j]? = some a ∧ l[f + 2 * j + 1]? = some b ∧ (x = a ∨ x = b) ∧ a + b - x = y := by
      rcases h with ⟨h1, h2⟩ | ⟨h1, h2⟩
      · exact ⟨x, y, h1, h2, .inl rfl, by omega⟩
      · exact ⟨y, x, h1, h2, .inr rfl, by omega⟩
    have hm : mm (a, b) ∈ picI l f := mem_pic.mpr ⟨j, a, b, h1, h2, rfl⟩
    have hsome : ((picI l f).find? (hasI x)).isSome := List.find?_isSome.mpr ⟨_, hm, mm_has.mpr hx⟩
    obtain ⟨p, hp⟩ := Option.isSome_iff_exists.mp hsome
    refine ⟨p, hp, ?_⟩
    obtain ⟨j', a', b', k1, k2, rfl⟩ := mem_pic.mp (List.mem_of_find?_eq_some hp)
    have hh := mm_has.mp (List.find?_some hp)
    have hj : j = j' := by
      rcases hx with rfl | rfl <;> rcases hh with e | e
      · subst e; have := at_inj nd h1 k1; omega
      · subst e; have := at_inj nd h1 k2; omega
      · subst e; have := at_inj nd h2 k1; omega
      · subst e; have := at_inj nd h2 k2; omega
    subst hj
    rw [h1] at k1
    rw [h2] at k2
    rw [mm_sum, ← Option.some.inj k1, ← Option.some.inj k2]
    exact hy
theorem part_symm {l : List Int} (nd : l.Nodup) {f : Nat} {x y : Int} (h : partI (picI l f) x = some y) : partI (picI l f) y = some x := by
  rw [part_iff nd] at h ⊢
  obtain ⟨j, h⟩ := h
  exact ⟨j, h.elim .inr .inl⟩
theorem part_ne {l : List Int} (nd : l.Nodup) {f : Nat} {x y : Int} (h : partI (picI l f) x = some y) : x ≠ y := by
  rw [part_iff nd] at h
  obtain ⟨j, h⟩ := h
  rintro rfl
  rcases h with ⟨h1, h2⟩ | ⟨h1, h2⟩ <;> have := at_inj nd h1 h2 <;> omega
theorem part_mem {l : List Int} (nd : l.Nodup) {f : Nat} {x y : Int} (h : partI (picI l f) x = some y) : y ∈ l := by
  rw [part_iff nd] at h
  obtain ⟨j, h⟩ := h
  rcases h with ⟨h1, h2⟩ | ⟨h1, h2⟩
  · exact List.mem_of_getElem? h2
  · exact List.mem_of_getElem? h1
/-! ### one and the same picture -/
theorem le_total (p q : Int × Int) : leII p q || leII q p := by
  unfold leII
  rw [Bool.or_eq_true, decide_eq_true_eq, decide_eq_true_eq]
  omega
theorem le_trans' (p q r : Int × Int) (h1 : leII p q = true) (h2 : leII q r = true) : leII p r = true := by
  unfold leII at *
  rw [decide_eq_true_eq] at *
  omega
theorem le_anti (p q : Int × Int) (h1 : leII p q = true) (h2 : leII q p = true) : p = q := by
  unfold leII at *
  rw [decide_eq_true_eq] at *
  exact Prod.ext (by omega) (by omega)
theorem sortP_sorted (l : List (Int × Int)) : (sortP l).Pairwise fun a b => leII a b = true := List.pairwise_mergeSort le_trans' le_total l
theorem sortP_eq {l m : List (Int × Int)} (h : l.Perm m) : sortP l = sortP m :=
  (((List.mergeSort_perm l leII).trans h).trans (List.mergeSort_perm m leII).symm).eq_of_pairwise (fun a b _ _ h1 h2 => le_anti a b h1 h2) (sortP_sorted l) (sortP_sorted m)
theorem raw_at {l : List Int} {f i : Nat} {p : Int × Int} (h : (rawI l f)[i]? = some p) : ∃ a b, l[f + 2 * i]? = some a ∧ l[f + 2 * i + 1]? = some b ∧ p = mm (a, b) := by
  have hi := (List.getElem?_eq_some_iff.mp h).1
  rw [raw_len] at hi
  have h1 : l[f + 2 * i]? = some (l[f + 2 * i]'(by omega)) := List.getElem?_eq_getElem (by omega)
  have h2 : l[f + 2 * i + 1]? = some (l[f + 2 * i + 1]'(by omega)) := List.getElem?_eq_getElem (by omega)
  have g := raw_get h1 h2
  rw [h] at g
  exact ⟨_, _, h1, h2, Option.some.inj g⟩
/-- unlike places, unlike holes -/
theorem raw_apart {l : List Int} (nd : l.Nodup) {f i j : Nat} {p q : Int × Int} (hi : (rawI l f)[i]? = some p) (hj : (rawI l f)[j]? = some q) {x : Int} (h1 : hasI x p = true) (h2 : hasI x q = true) : i = j := by
  obtain ⟨a, b, a1, a2, rfl⟩ := raw_at hi
  obtain ⟨c, d, c1, c2, rfl⟩ := raw_at hj
  rcases mm_has.mp h1 with rfl | rfl <;> rcases mm_has.mp h2 with e | e
  · subst e; have := at_inj nd a1 c1; omega
  · subst e; have := at_inj nd a1 c2; omega
  · subst e; have := at_inj nd a2 c1; omega
  · subst e; have := at_inj nd a2 c2; omega
theorem raw_nodup {l : List Int} (nd : l.Nodup) (f : Nat) : (rawI l f).Nodup := by
  refine List.pairwise_iff_getElem.mpr fun i j hi hj hij e => ?_
  have h0 : (rawI l f)[i]? = some (rawI l f)[i] := List.getElem?_eq_getElem hi
  have h1 : (rawI l f)[j]? = some (rawI l f)[j] := List.getElem?_eq_getElem hj
  rw [e] at h0
  have : i = j := raw_apart nd h0 h1 (x := ((rawI l f)[j]).1) (by unfold hasI; simp) (by unfold hasI; simp)
  omega
theorem pic_ext {l r : List Int} (nl : l.Nodup) (nr : r.Nodup) {f g : Nat} (h : ∀ p, p ∈ rawI l f ↔ p ∈ rawI r g) : picI l f = picI r g :=
  sortP_eq ((List.perm_ext_iff_of_nodup (raw_nodup nl f) (raw_nodup nr g)).mpr fun p => h p)
theorem sub_perm {α : Type} [DecidableEq α] : ∀ {l m : List α}, l.Nodup → (∀ x ∈ l, x ∈ m) → m.length ≤ l.length → l.Perm m
  | [], [], _, _, _ => List.Perm.refl _
  | [], _ :: _, _, _, h => by simp at h
  | a :: l, m, nd, hs, h => by
    obtain ⟨n1, n2⟩ := List.nodup_cons.mp nd
    have ha := hs a List.mem_cons_self
    have p := List.perm_cons_erase ha
    have hl := p.length_eq
    refine (List.Perm.cons a (sub_perm n2 (fun x hx => ?_) ?_)).trans p.symm
    · have hx2 := p.mem_iff.mp (hs x (List.mem_cons_of_mem _ hx))
      rcases List.mem_cons.mp hx2 with rfl | h2
      · exact absurd hx n1
      · exact h2
    · simp only [List.length_cons] at h hl
      omega
theorem sub_len {α : Type} [DecidableEq α] : ∀ {l m : List α}, l.Nodup → (∀ x ∈ l, x ∈ m) → l.length ≤ m.length
  | [], m, _, _ => Nat.zero_le _
  | a :: l, m, nd, hs => by
    obtain ⟨n1, n2⟩ := List.nodup_cons.mp nd
    have ha := hs a List.mem_cons_self
    have p := List.perm_cons_erase ha
    have hl := p.length_eq
    have := sub_len (m := m.erase a) n2 fun x hx => by
      have hx2 := p.mem_iff.mp (hs x (List.mem_cons_of_mem _ hx))
      rcases List.mem_cons.mp hx2 with rfl | h2
      · exact absurd hx n1
      · exact h2
    simp only [List.length_cons] at hl ⊢
    omega
/-- one inside the other, as many pairs -/
theorem pic_sub {l r : List Int} (nl : l.Nodup) (nr : r.Nodup) {f g : Nat} (hl : (rawI r g).length ≤ (rawI l f).length) (h : ∀ p, p ∈ rawI l f → p ∈ rawI r g) : picI l f = picI r g :=
  sortP_eq (sub_perm (raw_nodup nl f) h hl)
theorem rev_at {l : List Int} {i : Nat} (h : i < l.length) : l.reverse[i]? = l[l.length - 1 - i]? := List.getElem?_reverse h
theorem pic_rev {l : List Int} {k : Nat} (hl : Lac l k) {f : Nat} (hf : f ≤ 1) : picI l.reverse f = picI l f := by
  obtain ⟨h1, h2, h3, h4, nd⟩ := hl
  have nr : l.reverse.Nodup := List.pairwise_reverse.mpr (nd.imp fun h => h.symm)
  refine pic_sub nr nd (by rw [raw_len, raw_len, List.length_reverse]; exact Nat.le_refl _) fun p hp => ?_
  obtain ⟨j, a, b, e1, e2, rfl⟩ := mem_raw.mp hp
  have b1 := (List.getElem?_eq_some_iff.mp e2).1
  rw [List.length_reverse] at b1
  rw [rev_at (by omega)] at e1 e2
  rw [mem_raw]
  refine ⟨k - 1 - f - j, b, a, ?_, ?_, ?_⟩
  · rw [← e2]; congr 1; omega
  · rw [← e1]; congr 1; omega
  · rcases mm_cases a b with h | h <;> rcases mm_cases b a with h' | h' <;> rw [h, h']
    · have e : a ≠ b := fun e => by subst e; have := at_inj nd e1 e2; omega
      have := mm_lt e
      have h5 := mm_lt (Ne.symm e)
      rw [h] at this
      rw [h'] at h5
      exact absurd (Int.lt_trans this h5) (Int.lt_irrefl _)
    · have e : a ≠ b := fun e => by subst e; have := at_inj nd e1 e2; omega
      have := mm_lt e
      have h5 := mm_lt (Ne.symm e)
      rw [h] at this
      rw [h'] at h5
      exact absurd (Int.lt_trans this h5) (Int.lt_irrefl _)
end LR

set_option Elab.async false
set_option linter.all false
set_option maxRecDepth 100000
set_option maxHeartbeats 4000000
namespace LR
open PySem PySem.Spec PyProof.Rows L2
/-! ### the rows of own operators -/
section
variable {G : Str → Option D} {cl : Str → List D → Mem → R D} {s : Sl} {m : Mem} {a b : E}
@[simp] theorem x_oo1 {k : K1} {C key : Str} : ev G cl (.oo1 k C key a) s m = (ev G cl a s m).bind fun d m => match insOf m d with
    | some q => if q.1 = C then (cl key [d] m).bind fun r m => opt m (backK1 k r) else .err
    | none => .err := by rw [ev]; try rfl
@[simp] theorem x_oo2 {k : K2} {C key : Str} : ev G cl (.oo2 k C key a b) s m = (ev G cl a s m).bind fun d m => (ev G cl b s m).bind fun y m => match insOf m (instK2 k d y) with
    | some q => if q.1 = C ∧ kindK2 k C m y then (cl key [instK2 k d y, otherK2 k d y] m).bind fun r m => opt m (backK2 k r) else .err
    | none => .err := by rw [ev]; try rfl
@[simp] theorem x_prp {C x key : Str} : ev G cl (.prp a C x key) s m = (ev G cl a s m).bind fun d m => match insOf m d with
    | some q => if q.1 = C then (match cl key [d] m with
      | .ok r m => .ok r m
      | _ => .err) else .err
    | none => .err := by rw [ev]; try rfl
@[simp] theorem x_iso {C : Str} : ev G cl (.iso C a) s m = (ev G cl a s m).bind fun x m => opt m (semIso C x m) := by rw [ev]
end
end LR

set_option Elab.async false
set_option linter.all false
set_option maxRecDepth 100000
set_option maxHeartbeats 4000000
namespace LR
open PySem PySem.Spec PyProof.Rows L2
/-! ### data of any kind, of some depth and length -/
def okD : Nat → Nat → D → Bool
  | 0, _, _ => false
  | n + 1, L, d => match d with
    | .non => true
    | .bl _ => true
    | .int _ => true
    | .str s => PyData.strOk s
    | .tup l => decide (l.length ≤ L) && l.all (okD n L)
    | .lst l => decide (l.length ≤ L) && l.all (okD n L)
    | _ => false
theorem okD_shape {L : Nat} : ∀ {n : Nat} {d : D}, okD n L d = true → d.py.canLay0 = true ∧ d.py.depth ≤ n
  | 0, _, h => by simp [okD] at h
  | n + 1, d, h => by
    have all : ∀ l : List D, l.all (okD n L) = true → PyData.canLayAll0 (pys l) = true ∧ PyData.depthAll (pys l) ≤ n := by
      intro l
      induction l with
      | nil => intro _; simp [pys, PyData.canLayAll0, PyData.depthAll]
      | cons a l ih =>
        intro hl
        rw [List.all_cons, Bool.and_eq_true] at hl
        obtain ⟨i1, i2⟩ := ih hl.2
        obtain ⟨j1, j2⟩ := okD_shape hl.1
        simp only [pys, PyData.canLayAll0, PyData.depthAll, i1, j1, Bool.and_self, true_and]
        exact Nat.max_le.mpr ⟨j2, i2⟩
    cases d with
    | non => simp [D.py, PyData.canLay0, PyData.depth]
    | bl b => simp [D.py, PyData.canLay0, PyData.depth]
    | int i => simp [D.py, PyData.canLay0, PyData.depth]
    | str s =>
      simp only [okD] at h
      simp [D.py, PyData.canLay0, PyData.depth, h]
    | tup l =>
      simp only [okD, Bool.and_eq_true] at h
      obtain ⟨i1, i2⟩ := all l h.2
      simp only [D.py, PyData.canLay0, PyData.depth, i1, true_and]
      omega
    | lst l =>
      simp only [okD, Bool.and_eq_true] at h
      obtain ⟨i1, i2⟩ := all l h.2
      simp only [D.py, PyData.canLay0, PyData.depth, i1, true_and]
      omega
    | scr l => simp [okD] at h
    | ref l => simp [okD] at h
theorem okD_sh {n L : Nat} {d : D} (hn : n ≤ 64) (h : okD n L d = true) : SeqAt.shaped d.py = true := by
  obtain ⟨h1, h2⟩ := okD_shape h
  unfold SeqAt.shaped
  rw [h1, Bool.true_and]
  exact decide_eq_true (Nat.le_trans h2 hn)
theorem okD_mono {n n' L L' : Nat} (hn : n ≤ n') (hL : L ≤ L') {d : D} (h : okD n L d = true) : okD n' L' d = true := by
  induction n generalizing n' d with
  | zero => simp [okD] at h
  | succ n ih =>
    cases n' with
    | zero => omega
    | succ n' =>
      have all : ∀ l : List D, l.all (okD n L) = true → l.all (okD n' L') = true := fun l hl => by
        rw [List.all_eq_true] at hl ⊢
        exact fun x hx => ih (by omega) (hl x hx)
      cases d with
      | tup l =>
        simp only [okD, Bool.and_eq_true, decide_eq_true_eq] at h ⊢
        exact ⟨Nat.le_trans h.1 hL, all l h.2⟩
      | lst l =>
        simp only [okD, Bool.and_eq_true, decide_eq_true_eq] at h ⊢
        exact ⟨Nat.le_trans h.1 hL, all l h.2⟩
      | non => rfl
      | bl b => rfl
      | int i => rfl
      | str s => simp only [okD] at h ⊢; exact h
      | scr l => simp [okD] at h
      | ref l => simp [okD] at h
theorem okD_tup {n L : Nat} {l : List D} : okD (n + 1) L (.tup l) = true ↔ l.length ≤ L ∧ ∀ x ∈ l, okD n L x = true := by
  simp only [okD, Bool.and_eq_true, decide_eq_true_eq, List.all_eq_true]
theorem okD_lst {n L : Nat} {l : List D} : okD (n + 1) L (.lst l) = true ↔ l.length ≤ L ∧ ∀ x ∈ l, okD n L x = true := by
  simp only [okD, Bool.and_eq_true, decide_eq_true_eq, List.all_eq_true]
theorem eqD_tnil {n L : Nat} {l : List D} (hn : n ≤ 63) (h : okD (n + 1) L (.tup l) = true) : eqD (.tup l) (.tup []) = some (decide (l = [])) := by
  unfold eqD
  rw [okD_sh (by omega) h, show SeqAt.shaped (D.tup []).py = true from okD_sh (n := 1) (L := 0) (by decide) rfl]
  cases l <;> simp [D.py, pys, PyData.eqv, PyData.eqvAll]
theorem eqD_lnil {n L : Nat} {l : List D} (hn : n ≤ 63) (h : okD (n + 1) L (.lst l) = true) : eqD (.lst l) (.lst []) = some (decide (l = [])) := by
  unfold eqD
  rw [okD_sh (by omega) h, show SeqAt.shaped (D.lst []).py = true from okD_sh (n := 1) (L := 0) (by decide) rfl]
  cases l <;> simp [D.py, pys, PyData.eqv, PyData.eqvAll]
/-! ### ints sorted, a list among lists -/
theorem sort_ints {l : List Int} (hl : l.length ≤ lim) : sortOk (l.map .int) = true ∧ sortD (l.map .int) = (l.mergeSort fun a b => decide (a ≤ b)).map .int := by
  constructor
  · unfold sortOk
    simp only [Bool.and_eq_true, Bool.or_eq_true, List.all_eq_true, decide_eq_true_eq, List.length_map]
    refine ⟨⟨.inr fun d hd => ?_, fun d hd => ⟨⟨?_, ?_⟩, fun e he => ?_⟩⟩, hl⟩
    · obtain ⟨p, _, rfl⟩ := List.mem_map.mp hd
      rfl
    · obtain ⟨p, _, rfl⟩ := List.mem_map.mp hd
      exact encInt.shaped (by decide) p
    · obtain ⟨p, _, rfl⟩ := List.mem_map.mp hd
      exact Nat.le_trans (encInt.dep p) (by decide)
    · obtain ⟨p, _, rfl⟩ := List.mem_map.mp hd
      obtain ⟨q, _, rfl⟩ := List.mem_map.mp he
      simp [D.py, PySem.W.alike]
  · unfold sortD
    rw [← PySem.W.sort_maps (r := fun a b : Int => decide (a ≤ b)) D.int fun a _ b _ => ?_]
    rw [PySem.W.dataLe_eq]
    show decide (a ≤ b) = (!PySem.W.dataLt (.int b) (.int a))
    rw [PySem.W.dataLt_int]
    by_cases h : a ≤ b
    · rw [decide_eq_true h, decide_eq_false (by omega)]; rfl
    · rw [decide_eq_false h, decide_eq_true (by omega)]; rfl
theorem Enc.inD {α : Type} [DecidableEq α] {φ : α → D} {d : Nat} (E : Enc φ d) (hd : d ≤ 30) (hf : ∀ a, (φ a).flat = false) (a : α) (l : List α) : LR.inD (φ a) (l.map φ) = some (decide (a ∈ l)) := by
  unfold LR.inD
  rw [hf a, Bool.false_and, if_neg (by decide)]
  have h1 := E.shaped (by omega) a
  have h2 : SeqAt.shaped (.list (pys (l.map φ))) = true := E.lst.shaped (by omega) l
  have h3 : decide ((φ a).py.depth ≤ 30) = true := decide_eq_true (Nat.le_trans (E.dep a) hd)
  rw [h1, h2, h3]
  simp only [Bool.and_self, if_true]
  congr 1
  rw [Bool.eq_iff_iff, decide_eq_true_eq]
  induction l with
  | nil => simp [pys]
  | cons b l ih =>
    have h2' : SeqAt.shaped (.list (pys (l.map φ))) = true := E.lst.shaped (by omega) l
    simp only [List.map_cons, pys, List.any_cons, Bool.or_eq_true, E.eq, decide_eq_true_eq, List.mem_cons]
    rw [ih h2']
    exact or_congr eq_comm Iff.rfl
/-! ### is it a lacing -/
def betD (d : D) (lo hi : Int) : Bool := match d with
  | .int i => decide (lo ≤ i) && decide (i ≤ hi)
  | _ => false
def stB (d : D) : Bool := match d with
  | .str s => decide (s = "in" ∨ s = "out")
  | _ => false
def intOf : D → Int
  | .int i => i
  | _ => 0
def isQ (q : List D) : Bool := decide (2 ≤ q.length ∧ q.length ≤ 12) && decide (q.length % 2 = 0) && q.all (fun h => betD h 0 ((q.length : Int) - 1)) && decide ((uniq (q.map intOf)).length = q.length)
def isD (d : D) : Bool := match d with
  | .tup [a, .tup q] => stB a && isQ q
  | _ => false
theorem all_ints {q : List D} {lo hi : Int} (h : q.all (fun h => betD h lo hi) = true) : q = (q.map intOf).map .int ∧ ∀ x ∈ q.map intOf, lo ≤ x ∧ x ≤ hi := by
  induction q with
  | nil => exact ⟨rfl, fun x hx => by simp at hx⟩
  | cons a q ih =>
    rw [List.all_cons, Bool.and_eq_true] at h
    obtain ⟨i1, i2⟩ := ih h.2
    have ha := h.1
    unfold betD at ha
    split at ha
    · rename_i i
      rw [Bool.and_eq_true, decide_eq_true_eq, decide_eq_true_eq] at ha
      refine ⟨?_, fun x hx => ?_⟩
      · rw [List.map_cons, List.map_cons, ← i1]
        rfl
      · rw [List.map_cons] at hx
        rcases List.mem_cons.mp hx with rfl | hx
        · exact ha
        · exact i2 x hx
    · cases ha
theorem uniq_len {l : List Int} : (uniq l).length = l.length ↔ l.Nodup := by
  have le : ∀ l : List Int, (uniq l).length ≤ l.length := fun l => by
    induction l with
    | nil => exact Nat.le_refl _
    | cons a l ih =>
      rw [uniq]
      split
      · simp only [List.length_cons]; omega
      · simp only [List.length_cons]; omega
  induction l with
  | nil => simp [uniq]
  | cons a l ih =>
    rw [uniq, List.nodup_cons]
    have := le l
    split
    · rename_i h
      simp only [List.length_cons]
      constructor
      · intro e; omega
      · intro e; exact absurd h e.1
    · rename_i h
      simp only [List.length_cons, Nat.add_right_cancel_iff]
      exact ih.trans ⟨fun e => ⟨h, e⟩, fun e => e.2⟩
/-- as the law says it -/
def rngI (s : Nat) : List Int := (List.range (2 * s)).map fun x : Nat => (x : Int)
def isQ2 (q : List D) : Bool := q.all (fun h => betD h 0 11) && decide (((q.map intOf).mergeSort fun a b => decide (a ≤ b)) ∈ [rngI 1, rngI 2, rngI 3, rngI 4, rngI 5, rngI 6])
theorem rngI_sorted (s : Nat) : (rngI s).Pairwise fun a b => decide (a ≤ b) = true := by
  unfold rngI
  refine List.pairwise_map.mpr (List.pairwise_lt_range.imp fun h => ?_)
  rw [decide_eq_true_eq]
  omega
theorem rngI_nodup (s : Nat) : (rngI s).Nodup := by
  unfold rngI
  refine List.pairwise_map.mpr (List.pairwise_lt_range.imp fun h => ?_)
  omega
theorem rngI_mem {s : Nat} {x : Int} : x ∈ rngI s ↔ 0 ≤ x ∧ x < 2 * s := by
  unfold rngI
  rw [List.mem_map]
  constructor
  · rintro ⟨y, hy, rfl⟩
    have := List.mem_range.mp hy
    omega
  · rintro ⟨h1, h2⟩
    exact ⟨x.toNat, List.mem_range.mpr (by omega), by omega⟩
theorem sub_perm' {α : Type} [DecidableEq α] : ∀ {l m : List α}, l.Nodup → (∀ x ∈ l, x ∈ m) → m.length ≤ l.length → l.Perm m
  | [], [], _, _, _ => List.Perm.refl _
  | [], _ :: _, _, _, h => by simp at h
  | a :: l, m, nd, hs, h => by
    obtain ⟨n1, n2⟩ := List.nodup_cons.mp nd
    have ha := hs a List.mem_cons_self
    have p := List.perm_cons_erase ha
    have hl := p.length_eq
    refine (List.Perm.cons a (sub_perm' n2 (fun x hx => ?_) ?_)).trans p.symm
    · have hx2 := p.mem_iff.mp (hs x (List.mem_cons_of_mem _ hx))
      rcases List.mem_cons.mp hx2 with rfl | h2
      · exact absurd hx n1
      · exact h2
    · simp only [List.length_cons] at h hl
      omega
theorem sortI_eq {a b : List Int} (h : a.Perm b) (hb : b.Pairwise fun a b => decide (a ≤ b) = true) : (a.mergeSort fun a b => decide (a ≤ b)) = b :=
  ((List.mergeSort_perm a _).trans h).eq_of_pairwise (fun x y _ _ h1 h2 => by rw [decide_eq_true_eq] at h1 h2; omega) (List.pairwise_mergeSort (fun x y z h1 h2 => by rw [decide_eq_true_eq] at *; omega) (fun x y => by rw [Bool.or_eq_true, decide_eq_true_eq, decide_eq_true_eq]; omega) a) hb
theorem isQ_eq (q : List D) : isQ q = isQ2 q := by
  rw [Bool.eq_iff_iff]
  unfold isQ isQ2
  simp only [Bool.and_eq_true, decide_eq_true_eq]
  constructor
  · rintro ⟨⟨⟨⟨h1, h2⟩, h3⟩, h4⟩, h5⟩
    obtain ⟨e1, e2⟩ := all_ints h4
    have hl : (q.map intOf).length = q.length := List.length_map _
    generalize hns : q.map intOf = ns at e1 e2 h5 hl ⊢
    rw [← hl] at h5
    have nd := uniq_len.mp h5
    obtain ⟨s, hs⟩ : ∃ s, ns.length = 2 * s := ⟨ns.length / 2, by omega⟩
    have hp : ns.Perm (rngI s) := sub_perm' nd (fun x hx => by rw [rngI_mem]; have := e2 x hx; omega) (by unfold rngI; rw [List.length_map, List.length_range, hs]; exact Nat.le_refl _)
    refine ⟨?_, ?_⟩
    · rw [e1, List.all_eq_true]
      intro x hx
      obtain ⟨i, hi, rfl⟩ := List.mem_map.mp hx
      have := e2 i hi
      unfold betD
      rw [Bool.and_eq_true, decide_eq_true_eq, decide_eq_true_eq]
      omega
    · rw [sortI_eq hp (rngI_sorted s)]
      have h6 : s = 1 ∨ s = 2 ∨ s = 3 ∨ s = 4 ∨ s = 5 ∨ s = 6 := by omega
      rcases h6 with rfl | rfl | rfl | rfl | rfl | rfl <;> simp
  · rintro ⟨h1, h2⟩
    obtain ⟨e1, e2⟩ := all_ints h1
    have hl : (q.map intOf).length = q.length := List.length_map _
    generalize hns : q.map intOf = ns at e1 e2 h2 hl ⊢
    obtain ⟨s, hs1, hs2, hs⟩ : ∃ s, 1 ≤ s ∧ s ≤ 6 ∧ (ns.mergeSort fun a b => decide (a ≤ b)) = rngI s := by
      simp only [List.mem_cons, List.not_mem_nil, or_false] at h2
      rcases h2 with h | h | h | h | h | h
      · exact ⟨1, by decide, by decide, h⟩
      · exact ⟨2, by decide, by decide, h⟩
      · exact ⟨3, by decide, by decide, h⟩
      · exact ⟨4, by decide, by decide, h⟩
      · exact ⟨5, by decide, by decide, h⟩
      · exact ⟨6, by decide, by decide, h⟩
    have hp : ns.Perm (rngI s) := hs ▸ (List.mergeSort_perm ns _).symm
    have hlen : ns.length = 2 * s := by rw [hp.length_eq]; unfold rngI; rw [List.length_map, List.length_range]
    have nd : ns.Nodup := hp.nodup_iff.mpr (rngI_nodup s)
    refine ⟨⟨⟨⟨by omega, by omega⟩, by omega⟩, ?_⟩, ?_⟩
    · rw [e1, List.all_eq_true]
      intro x hx
      obtain ⟨i, hi, rfl⟩ := List.mem_map.mp hx
      have := rngI_mem.mp (hp.mem_iff.mp hi)
      unfold betD
      rw [Bool.and_eq_true, decide_eq_true_eq, decide_eq_true_eq]
      rw [List.length_map, hlen]
      omega
    · rw [← hl]
      exact uniq_len.mpr nd
end LR

set_option Elab.async false
set_option linter.all false
set_option maxRecDepth 100000
set_option maxHeartbeats 4000000
namespace LR
open PySem PySem.Spec PyProof.Rows L2
def a_need_lacing_r : S := (.seq (.ite (.no (.call "is_lacing" (.cons (.v 0) .nil))) (.seq (.rse "InvalidLacing") .nop) .nop) .nop)
def n_need_lacing_r : List PySem.Str := ["lacing"]
def f_need_lacing_r : Fn := ⟨1, 1, a_need_lacing_r⟩
def a_Lacing_init : S := (.seq (.exp (.call "need_lacing" (.cons (.tup (.cons (.v 1) (.cons (.v 2) .nil))) .nil))) (.seq (.fas (.v 0) "Lacing" "pair" (.tup (.cons (.v 1) (.cons (.bi .tuple (.cons (.v 2) .nil)) .nil)))) (.seq (.fas (.v 0) "Lacing" "pictures" (.tup (.cons (.call "outside_of" (.cons (.fld (.v 0) "Lacing" "pair") .nil)) (.cons (.call "inside_of" (.cons (.fld (.v 0) "Lacing" "pair") .nil)) .nil)))) .nop)))
def n_Lacing_init : List PySem.Str := ["self", "start", "holes"]
def f_Lacing_init : Fn := ⟨3, 3, a_Lacing_init⟩
def a_Lacing_source : S := (.seq (.ret (.fld (.v 0) "Lacing" "pair")) .nop)
def n_Lacing_source : List PySem.Str := ["self"]
def f_Lacing_source : Fn := ⟨1, 1, a_Lacing_source⟩
def a_Lacing_size : S := (.seq (.ret (.call "size_of" (.cons (.fld (.v 0) "Lacing" "pair") .nil))) .nop)
def n_Lacing_size : List PySem.Str := ["self"]
def f_Lacing_size : Fn := ⟨1, 1, a_Lacing_size⟩
def a_Lacing_contains : S := (.seq (.ite (.or (.no (.isi "tuple" (.v 1))) (.or (.o2 .ne (.bi .len (.cons (.v 1) .nil)) (.c (.int 2))) (.no (.bi .all (.cons (.nl false (.comp (.call "is_between" (.cons (.v 2) (.cons (.c (.int 0)) (.cons (.c (.int 99)) .nil)))) false [2] (.seq (.v 1)) .nop)) .nil))))) (.seq (.ret (.c (.bl false))) .nop) .nop) (.seq (.ret (.o2 .inn (.bi .tuple (.cons (.nl false (.srd (.v 1))) .nil)) (.o2 .add (.idx (.fld (.v 0) "Lacing" "pictures") (.c (.int 0))) (.idx (.fld (.v 0) "Lacing" "pictures") (.c (.int 1)))))) .nop))
def n_Lacing_contains : List PySem.Str := ["self", "value", "hole"]
def f_Lacing_contains : Fn := ⟨3, 2, a_Lacing_contains⟩
def a_Lacing_len : S := (.seq (.ret (.bi .len (.cons (.nl false (.comp (.c (.int 1)) true [1, 2] (.seq (.call "stretches_of" (.cons (.idx (.fld (.v 0) "Lacing" "pair") (.c (.int 1))) .nil))) (.call "is_across" (.cons (.v 1) (.cons (.v 2) .nil))))) .nil))) .nop)
def n_Lacing_len : List PySem.Str := ["self", "one", "other"]
def f_Lacing_len : Fn := ⟨3, 1, a_Lacing_len⟩
def a_Lacing_getitem : S := (.seq (.ite (.no (.call "is_between" (.cons (.v 1) (.cons (.c (.int 0)) (.cons (.o2 .sub (.bi .len (.cons (.idx (.fld (.v 0) "Lacing" "pair") (.c (.int 1))) .nil)) (.c (.int 1))) .nil))))) (.seq (.rse "InvalidPlace") .nop) .nop) (.seq (.ret (.idx (.idx (.fld (.v 0) "Lacing" "pair") (.c (.int 1))) (.v 1))) .nop))
def n_Lacing_getitem : List PySem.Str := ["self", "place"]
def f_Lacing_getitem : Fn := ⟨2, 2, a_Lacing_getitem⟩
def a_Lacing_neg : S := (.seq (.asg (.nm 1) (.o1 .rev (.idx (.fld (.v 0) "Lacing" "pair") (.c (.int 1))))) (.seq (.ret (.mk "Lacing" "Lacing.__init__" (.cons (.idx (.fld (.v 0) "Lacing" "pair") (.c (.int 0))) (.cons (.bi .tuple (.cons (.v 1) .nil)) .nil)))) .nop))
def n_Lacing_neg : List PySem.Str := ["self", "back"]
def f_Lacing_neg : Fn := ⟨2, 1, a_Lacing_neg⟩
def a_Lacing_bool : S := (.seq (.ret (.bi .bool (.cons (.call "holding" (.cons (.idx (.fld (.v 0) "Lacing" "pair") (.c (.int 1))) .nil)) .nil))) .nop)
def n_Lacing_bool : List PySem.Str := ["self"]
def f_Lacing_bool : Fn := ⟨1, 1, a_Lacing_bool⟩
def a_Lacing_eq : S := (.seq (.ret (.and (.iso "Lacing" (.v 1)) (.o2 .eq (.fld (.v 0) "Lacing" "pictures") (.fld (.v 1) "Lacing" "pictures")))) .nop)
def n_Lacing_eq : List PySem.Str := ["self", "other"]
def f_Lacing_eq : Fn := ⟨2, 2, a_Lacing_eq⟩
def a_law_value : S := (.seq (.tpl [.nm 1, .nm 2] (.v 0)) (.seq (.ite (.o2 .eq (.bi .len (.cons (.v 2) .nil)) (.c (.int 2))) (.seq (.ret (.mk "Lacing" "Lacing.__init__" (.cons (.v 1) (.cons (.tup (.cons (.idx (.v 2) (.c (.int 0))) (.cons (.idx (.v 2) (.c (.int 1))) .nil))) .nil)))) .nop) .nop) (.seq (.ite (.o2 .eq (.bi .len (.cons (.v 2) .nil)) (.c (.int 4))) (.seq (.ret (.mk "Lacing" "Lacing.__init__" (.cons (.v 1) (.cons (.tup (.cons (.idx (.v 2) (.c (.int 0))) (.cons (.idx (.v 2) (.c (.int 1))) (.cons (.idx (.v 2) (.c (.int 2))) (.cons (.idx (.v 2) (.c (.int 3))) .nil))))) .nil)))) .nop) .nop) (.seq (.ret (.mk "Lacing" "Lacing.__init__" (.cons (.v 1) (.cons (.tup (.cons (.idx (.v 2) (.c (.int 0))) (.cons (.idx (.v 2) (.c (.int 1))) (.cons (.idx (.v 2) (.c (.int 2))) (.cons (.idx (.v 2) (.c (.int 3))) (.cons (.idx (.v 2) (.c (.int 4))) (.cons (.idx (.v 2) (.c (.int 5))) .nil))))))) .nil)))) .nop))))
def n_law_value : List PySem.Str := ["_law_lacing_here", "_law_start", "_law_holes"]
def f_law_value : Fn := ⟨3, 1, a_law_value⟩
def a_law_nothing : S := (.seq (.tri (.seq (.ret (.o2 .eq (.oo2 .get "Lacing" "Lacing.__getitem__" (.v 0) (.v 1)) (.c (.str "none")))) .nop) [("InvalidPlace", .bl true)]) .nop)
def n_law_nothing : List PySem.Str := ["_law_one", "_law_place", "e"]
def f_law_nothing : Fn := ⟨3, 2, a_law_nothing⟩
def a_law : S := (.seq (.loop false [1] (.rng (.cons (.o2 .add (.c (.int 1)) (.bi .min (.cons (.bi .len (.cons (.v 0) .nil)) (.cons (.c (.int 10)) .nil)))) .nil)) (.seq (.asg (.nm 2) (.call "_law_source" (.cons (.v 0) (.cons (.v 1) .nil)))) (.seq (.loop false [3] (.rng (.cons (.c (.int 4)) .nil)) (.seq (.asg (.nm 4) (.o2 .add (.c (.int 1)) (.call "_law_draw" (.cons (.v 2) (.cons (.c (.int 3)) .nil))))) (.seq (.par [5, 6] (.cons (.call "_law_lacing" (.cons (.v 2) (.cons (.v 4) .nil))) (.cons (.call "_law_lacing" (.cons (.v 2) (.cons (.v 4) .nil))) .nil))) (.seq (.asg (.nm 6) (.call "_law_choice" (.cons (.v 2) (.cons (.nl false (.disp (.cons (.v 6) (.cons (.tup (.cons (.idx (.v 5) (.c (.int 0))) (.cons (.o1 .rev (.idx (.v 5) (.c (.int 1)))) .nil))) (.cons (.tup (.cons (.idx (.v 6) (.c (.int 0))) (.cons (.idx (.v 5) (.c (.int 1))) .nil))) .nil))))) .nil)))) (.seq (.tpl [.nm 7, .nm 8] (.tup (.cons (.call "_law_value" (.cons (.v 5) .nil)) (.cons (.call "_law_value" (.cons (.v 6) .nil)) .nil)))) (.seq (.ite (.or (.o2 .ne (.prp (.v 7) "Lacing" "source" "Lacing.source") (.v 5)) (.o2 .ne (.prp (.v 7) "Lacing" "size" "Lacing.size") (.v 4))) (.seq (.ret (.c (.bl false))) .nop) .nop) (.seq (.ite (.o2 .ne (.oo1 .len "Lacing" "Lacing.__len__" (.v 7)) (.o2 .sub (.o2 .sub (.o2 .mul (.c (.int 2)) (.v 4)) (.c (.int 1))) (.idx (.call "kinds" (.cons (.v 5) .nil)) (.c (.int 2))))) (.seq (.ret (.c (.bl false))) .nop) .nop) (.seq (.ite (.or (.o2 .ne (.nl false (.comp (.oo2 .get "Lacing" "Lacing.__getitem__" (.v 7) (.v 15)) false [15] (.rng (.cons (.o2 .mul (.c (.int 2)) (.v 4)) .nil)) .nop)) (.nl false (.cp (.idx (.v 5) (.c (.int 1)))))) (.o2 .ne (.oo1 .tru "Lacing" "Lacing.__bool__" (.v 7)) (.call "holds" (.cons (.v 5) .nil)))) (.seq (.ret (.c (.bl false))) .nop) .nop) (.seq (.asg (.nm 9) (.oo1 .neg "Lacing" "Lacing.__neg__" (.v 7))) (.seq (.ite (.or (.o2 .ne (.prp (.v 9) "Lacing" "source" "Lacing.source") (.tup (.cons (.idx (.v 5) (.c (.int 0))) (.cons (.o1 .rev (.idx (.v 5) (.c (.int 1)))) .nil)))) (.or (.oo2 .ne "Lacing" "Lacing.__eq__" (.v 9) (.v 7)) (.oo2 .ne "Lacing" "Lacing.__eq__" (.oo1 .neg "Lacing" "Lacing.__neg__" (.v 9)) (.v 7)))) (.seq (.ret (.c (.bl false))) .nop) .nop) (.seq (.asg (.nm 10) (.tup (.cons (.call "_law_outer" (.cons (.v 5) .nil)) (.cons (.call "_law_inner" (.cons (.v 5) .nil)) .nil)))) (.seq (.ite (.o2 .ne (.oo2 .eq "Lacing" "Lacing.__eq__" (.v 7) (.v 8)) (.o2 .eq (.v 10) (.tup (.cons (.call "_law_outer" (.cons (.v 6) .nil)) (.cons (.call "_law_inner" (.cons (.v 6) .nil)) .nil))))) (.seq (.ret (.c (.bl false))) .nop) .nop) (.seq (.asg (.nm 11) (.o2 .add (.call "_law_outer" (.cons (.v 5) .nil)) (.call "_law_inner" (.cons (.v 5) .nil)))) (.seq (.loop false [12] (.rng (.cons (.o2 .mul (.c (.int 2)) (.v 4)) .nil)) (.seq (.loop false [13] (.rng (.cons (.o2 .mul (.c (.int 2)) (.v 4)) .nil)) (.seq (.ite (.o2 .ne (.oo2 .inn "Lacing" "Lacing.__contains__" (.tup (.cons (.v 12) (.cons (.v 13) .nil))) (.v 7)) (.o2 .inn (.tup (.cons (.bi .min (.cons (.v 12) (.cons (.v 13) .nil))) (.cons (.bi .max (.cons (.v 12) (.cons (.v 13) .nil))) .nil))) (.v 11))) (.seq (.ret (.c (.bl false))) .nop) .nop) .nop)) .nop)) (.seq (.asg (.nm 14) (.call "_law_choice" (.cons (.v 2) (.cons (.nl false (.disp (.cons (.c .non) (.cons (.c (.int 0)) (.cons (.nl false (.disp (.cons (.c (.int 0)) (.cons (.c (.int 1)) .nil)))) (.cons (.tup (.cons (.c (.int 0)) .nil)) (.cons (.tup (.cons (.c (.int 0)) (.cons (.c (.int 1)) (.cons (.c (.int 2)) .nil)))) (.cons (.c (.str "01")) (.cons (.tup (.cons (.c (.bl true)) (.cons (.c (.int 0)) .nil))) (.cons (.tup (.cons (.c (.str "0")) (.cons (.c (.str "1")) .nil))) .nil)))))))))) .nil)))) (.seq (.ite (.or (.o2 .isn (.oo2 .inn "Lacing" "Lacing.__contains__" (.v 14) (.v 7)) (.c (.bl false))) (.or (.oo2 .eq "Lacing" "Lacing.__eq__" (.v 7) (.v 5)) (.oo2 .eq "Lacing" "Lacing.__eq__" (.v 7) (.c (.int 5))))) (.seq (.ret (.c (.bl false))) .nop) .nop) (.seq (.ite (.no (.call "_law_nothing" (.cons (.v 7) (.cons (.call "_law_choice" (.cons (.v 2) (.cons (.nl false (.disp (.cons (.o1 .neg (.c (.int 1))) (.cons (.o2 .mul (.c (.int 2)) (.v 4)) (.cons (.c .non) (.cons (.c (.bl true)) .nil)))))) .nil))) .nil)))) (.seq (.ret (.c (.bl false))) .nop) .nop) .nop))))))))))))))))) .nop))) (.seq (.ite (.no (.lamc "_law_refused" (.mk "Lacing" "Lacing.__init__" (.cons (.c (.str "in")) (.cons (.tup (.cons (.c (.int 0)) (.cons (.c (.int 1)) (.cons (.c (.int 2)) .nil)))) .nil))) (.ref 0) [("InvalidLacing", .bl true)])) (.seq (.ret (.c (.bl false))) .nop) .nop) (.seq (.ite (.no (.lamc "_law_refused" (.mk "Lacing" "Lacing.__init__" (.cons (.c (.str "up")) (.cons (.tup (.cons (.c (.int 0)) (.cons (.c (.int 1)) .nil))) .nil))) (.ref 0) [("InvalidLacing", .bl true)])) (.seq (.ret (.c (.bl false))) .nop) .nop) (.seq (.ret (.lamc "_law_refused" (.mk "Lacing" "Lacing.__init__" (.cons (.c (.str "in")) (.cons (.tup (.cons (.c (.int 0)) (.cons (.c (.int 2)) .nil))) .nil))) (.ref 0) [("InvalidLacing", .bl true)])) .nop))))
def n_law : List PySem.Str := ["_law_script", "_law_k", "_law_source_here", "_law_turn", "_law_size", "_law_lacing_here", "_law_near", "_law_one", "_law_other", "_law_back", "_law_first", "_law_pairs", "_law_hole", "_law_end", "_law_odd", "_law_place"]
def f_law : Fn := ⟨16, 1, a_law⟩
abbrev law_b4 : S := (.seq (.ite (.o2 .ne (.oo2 .inn "Lacing" "Lacing.__contains__" (.tup (.cons (.v 12) (.cons (.v 13) .nil))) (.v 7)) (.o2 .inn (.tup (.cons (.bi .min (.cons (.v 12) (.cons (.v 13) .nil))) (.cons (.bi .max (.cons (.v 12) (.cons (.v 13) .nil))) .nil))) (.v 11))) (.seq (.ret (.c (.bl false))) .nop) .nop) .nop)
abbrev law_b3 : S := (.seq (.loop false [13] (.rng (.cons (.o2 .mul (.c (.int 2)) (.v 4)) .nil)) law_b4) .nop)
abbrev law_b2 : S := (.seq (.asg (.nm 4) (.o2 .add (.c (.int 1)) (.call "_law_draw" (.cons (.v 2) (.cons (.c (.int 3)) .nil))))) (.seq (.par [5, 6] (.cons (.call "_law_lacing" (.cons (.v 2) (.cons (.v 4) .nil))) (.cons (.call "_law_lacing" (.cons (.v 2) (.cons (.v 4) .nil))) .nil))) (.seq (.asg (.nm 6) (.call "_law_choice" (.cons (.v 2) (.cons (.nl false (.disp (.cons (.v 6) (.cons (.tup (.cons (.idx (.v 5) (.c (.int 0))) (.cons (.o1 .rev (.idx (.v 5) (.c (.int 1)))) .nil))) (.cons (.tup (.cons (.idx (.v 6) (.c (.int 0))) (.cons (.idx (.v 5) (.c (.int 1))) .nil))) .nil))))) .nil)))) (.seq (.tpl [.nm 7, .nm 8] (.tup (.cons (.call "_law_value" (.cons (.v 5) .nil)) (.cons (.call "_law_value" (.cons (.v 6) .nil)) .nil)))) (.seq (.ite (.or (.o2 .ne (.prp (.v 7) "Lacing" "source" "Lacing.source") (.v 5)) (.o2 .ne (.prp (.v 7) "Lacing" "size" "Lacing.size") (.v 4))) (.seq (.ret (.c (.bl false))) .nop) .nop) (.seq (.ite (.o2 .ne (.oo1 .len "Lacing" "Lacing.__len__" (.v 7)) (.o2 .sub (.o2 .sub (.o2 .mul (.c (.int 2)) (.v 4)) (.c (.int 1))) (.idx (.call "kinds" (.cons (.v 5) .nil)) (.c (.int 2))))) (.seq (.ret (.c (.bl false))) .nop) .nop) (.seq (.ite (.or (.o2 .ne (.nl false (.comp (.oo2 .get "Lacing" "Lacing.__getitem__" (.v 7) (.v 15)) false [15] (.rng (.cons (.o2 .mul (.c (.int 2)) (.v 4)) .nil)) .nop)) (.nl false (.cp (.idx (.v 5) (.c (.int 1)))))) (.o2 .ne (.oo1 .tru "Lacing" "Lacing.__bool__" (.v 7)) (.call "holds" (.cons (.v 5) .nil)))) (.seq (.ret (.c (.bl false))) .nop) .nop) (.seq (.asg (.nm 9) (.oo1 .neg "Lacing" "Lacing.__neg__" (.v 7))) (.seq (.ite (.or (.o2 .ne (.prp (.v 9) "Lacing" "source" "Lacing.source") (.tup (.cons (.idx (.v 5) (.c (.int 0))) (.cons (.o1 .rev (.idx (.v 5) (.c (.int 1)))) .nil)))) (.or (.oo2 .ne "Lacing" "Lacing.__eq__" (.v 9) (.v 7)) (.oo2 .ne "Lacing" "Lacing.__eq__" (.oo1 .neg "Lacing" "Lacing.__neg__" (.v 9)) (.v 7)))) (.seq (.ret (.c (.bl false))) .nop) .nop) (.seq (.asg (.nm 10) (.tup (.cons (.call "_law_outer" (.cons (.v 5) .nil)) (.cons (.call "_law_inner" (.cons (.v 5) .nil)) .nil)))) (.seq (.ite (.o2 .ne (.oo2 .eq "Lacing" "Lacing.__eq__" (.v 7) (.v 8)) (.o2 .eq (.v 10) (.tup (.cons (.call "_law_outer" (.cons (.v 6) .nil)) (.cons (.call "_law_inner" (.cons (.v 6) .nil)) .nil))))) (.seq (.ret (.c (.bl false))) .nop) .nop) (.seq (.asg (.nm 11) (.o2 .add (.call "_law_outer" (.cons (.v 5) .nil)) (.call "_law_inner" (.cons (.v 5) .nil)))) (.seq (.loop false [12] (.rng (.cons (.o2 .mul (.c (.int 2)) (.v 4)) .nil)) law_b3) (.seq (.asg (.nm 14) (.call "_law_choice" (.cons (.v 2) (.cons (.nl false (.disp (.cons (.c .non) (.cons (.c (.int 0)) (.cons (.nl false (.disp (.cons (.c (.int 0)) (.cons (.c (.int 1)) .nil)))) (.cons (.tup (.cons (.c (.int 0)) .nil)) (.cons (.tup (.cons (.c (.int 0)) (.cons (.c (.int 1)) (.cons (.c (.int 2)) .nil)))) (.cons (.c (.str "01")) (.cons (.tup (.cons (.c (.bl true)) (.cons (.c (.int 0)) .nil))) (.cons (.tup (.cons (.c (.str "0")) (.cons (.c (.str "1")) .nil))) .nil)))))))))) .nil)))) (.seq (.ite (.or (.o2 .isn (.oo2 .inn "Lacing" "Lacing.__contains__" (.v 14) (.v 7)) (.c (.bl false))) (.or (.oo2 .eq "Lacing" "Lacing.__eq__" (.v 7) (.v 5)) (.oo2 .eq "Lacing" "Lacing.__eq__" (.v 7) (.c (.int 5))))) (.seq (.ret (.c (.bl false))) .nop) .nop) (.seq (.ite (.no (.call "_law_nothing" (.cons (.v 7) (.cons (.call "_law_choice" (.cons (.v 2) (.cons (.nl false (.disp (.cons (.o1 .neg (.c (.int 1))) (.cons (.o2 .mul (.c (.int 2)) (.v 4)) (.cons (.c .non) (.cons (.c (.bl true)) .nil)))))) .nil))) .nil)))) (.seq (.ret (.c (.bl false))) .nop) .nop) .nop))))))))))))))))
abbrev law_b1 : S := (.seq (.asg (.nm 2) (.call "_law_source" (.cons (.v 0) (.cons (.v 1) .nil)))) (.seq (.loop false [3] (.rng (.cons (.c (.int 4)) .nil)) law_b2) .nop))
def fs : List (PySem.Str × Fn) := ([("is_between", f_is_between), ("is_start", f_is_start), ("is_lacing", f_is_lacing), ("need_lacing", f_need_lacing_r), ("size_of", f_size_of), ("is_across", f_is_across), ("stretches_of", f_stretches_of), ("loose_of", f_loose_of), ("holding", f_holding), ("kinds_of", f_kinds_of), ("kinds", f_kinds), ("holds", f_holds), ("picture_of", f_picture_of), ("outside_of", f_outside_of), ("inside_of", f_inside_of), ("Lacing.__init__", f_Lacing_init), ("Lacing.source", f_Lacing_source), ("Lacing.size", f_Lacing_size), ("Lacing.__contains__", f_Lacing_contains), ("Lacing.__len__", f_Lacing_len)] : List (PySem.Str × Fn)) ++ ([("Lacing.__getitem__", f_Lacing_getitem), ("Lacing.__neg__", f_Lacing_neg), ("Lacing.__bool__", f_Lacing_bool), ("Lacing.__eq__", f_Lacing_eq), ("_law_source", f_law_source), ("_law_draw", f_law_draw), ("_law_choice", f_law_choice), ("_law_order", f_law_order), ("_law_lacing", f_law_lacing), ("_law_seen", f_law_seen), ("_law_outer", f_law_outer), ("_law_inner", f_law_inner), ("_law_value", f_law_value), ("_law_nothing", f_law_nothing), ("law", f_law)] : List (PySem.Str × Fn))
def co : List (PySem.Str × D) := [("MOST_ROWS", .int 6), ("STARTS", .tup [.str "in", .str "out"])]
def ex : List (PySem.Str × List (PySem.Str × Bool)) := [("InvalidLacing", [("InvalidLacing", true), ("LaceError", true)]), ("InvalidPlace", [("InvalidPlace", true), ("LaceError", true)])]
def mth : List (PySem.Str × PySem.Str × PySem.Str) := [("Lacing", "__contains__", "Lacing.__contains__"), ("Lacing", "__len__", "Lacing.__len__"), ("Lacing", "__getitem__", "Lacing.__getitem__"), ("Lacing", "__neg__", "Lacing.__neg__"), ("Lacing", "__bool__", "Lacing.__bool__"), ("Lacing", "__eq__", "Lacing.__eq__")]
def fls : List (PySem.Str × PySem.Str) := [("Lacing", "pair"), ("Lacing", "pictures")]
def prp : List (PySem.Str × PySem.Str × PySem.Str) := [("Lacing", "source", "Lacing.source"), ("Lacing", "size", "Lacing.size")]
def mks : List (PySem.Str × PySem.Str) := [("Lacing", "Lacing.__init__")]
def opc : List PySem.Str := ["Lacing"]
def lmf : List (PySem.Str × D × List (PySem.Str × D)) := [("_law_refused", .ref 0, [("InvalidLacing", .bl true)])]
def Γl : Gam := { mkC co fs ex mth fls with lmf := lmf, prp := prp, mks := mks, opc := opc }
end LR

set_option Elab.async false
set_option linter.all false
set_option maxRecDepth 100000
set_option maxHeartbeats 4000000
namespace LR
open PySem PySem.Spec PyProof.Rows L2
section
variable {n : Nat} {m : Mem}
theorem hasS : HasS Γl := ⟨rfl, rfl, rfl, rfl, rfl⟩
theorem hasQ : HasQ Γl := ⟨rfl, rfl⟩
theorem p_needR {s : Str} (hs : IO s) {l : List Int} {k : Nat} (hl : Lac l k) : callN Γl (n + 3) "need_lacing" [lD s l] m = .ok .non m := by
  have e := p_is_lacing (Γ := Γl) (n := n) (m := m) rfl rfl rfl rfl rfl s hs l k hl
  rw [callN_eq (F := f_need_lacing_r) rfl rfl]
  unfold lD
  simp [f_need_lacing_r, a_need_lacing_r, e]
theorem p_pictureR (hs : List Int) (hl : hs.length ≤ 1000) (f : Nat) : callN Γl (n + 2) "picture_of" [.tup (hs.map .int), .int f] m = .ok (.tup ((picI hs f).map pD)) m := by
  have e1 := p_stretches_of (Γ := Γl) (n := n) (m := m) rfl hs (Nat.le_trans hl (by decide))
  have hc := compL_map (f := compF Γl.con (callN Γl (n + 1)) (.tup (.cons (.bi .min (.cons (.v 2) (.cons (.v 3) .nil))) (.cons (.bi .max (.cons (.v 2) (.cons (.v 3) .nil))) .nil))) true [2, 3] .nop [some (.tup (hs.map .int)), some (.int f), none, none]) pD (fun _ => true) (fun p => pD (mm p)) (fun p m => by
    simp [compF, E.isNop, pD, mm]) (evry ((prs hs).drop f)) [] m
  rw [List.filter_eq_self.mpr fun _ _ => rfl] at hc
  have hr : (evry ((prs hs).drop f)).map (fun p => pD (mm p)) = (rawI hs f).map pD := by unfold rawI; rw [List.map_map]; rfl
  rw [hr] at hc
  have hlen : (rawI hs f).length ≤ lim := by rw [raw_len]; show _ ≤ 1000000; omega
  obtain ⟨k1, k2⟩ := sort_pairs (rawI hs f) hlen
  have hd : evry (((prs hs).map pD).drop f) = (evry ((prs hs).drop f)).map pD := by rw [← List.map_drop, evry_map]
  have hl2 : (evry ((prs hs).drop f)).length ≤ lim := by
    have : (rawI hs f).length = (evry ((prs hs).drop f)).length := by unfold rawI; rw [List.length_map]
    omega
  rw [callN_eq (F := f_picture_of) rfl rfl]
  simp only [List.nil_append] at hc
  simp -implicitDefEqProofs [f_picture_of, a_picture_of, e1, hd, hl2, hc, semN1, k1, k2, picI, -List.map_drop]
theorem p_outR {s : Str} (hS : IO s) (hs : List Int) (hl : hs.length ≤ 1000) : callN Γl (n + 3) "outside_of" [lD s hs] m = .ok (picD (outI (s, hs))) m := by
  have e := p_pictureR (n := n) (m := m) hs hl (fO s)
  rw [callN_eq (F := f_outside_of) rfl rfl]
  unfold fO at e
  unfold lD picD outI fO
  rcases hS with rfl | rfl
  · simp [in_out] at e ⊢
    simp [f_outside_of, a_outside_of, e]
  · simp at e ⊢
    simp [f_outside_of, a_outside_of, e]
theorem p_inR {s : Str} (hS : IO s) (hs : List Int) (hl : hs.length ≤ 1000) : callN Γl (n + 3) "inside_of" [lD s hs] m = .ok (picD (inI (s, hs))) m := by
  have e := p_pictureR (n := n) (m := m) hs hl (fI s)
  rw [callN_eq (F := f_inside_of) rfl rfl]
  unfold fI at e
  unfold lD picD inI fI
  rcases hS with rfl | rfl
  · simp [in_out] at e ⊢
    simp [f_inside_of, a_inside_of, e]
  · simp at e ⊢
    simp [f_inside_of, a_inside_of, e]
/-- the stretches that lead to the other side -/
def acN (l : List Int) : Nat := ((prs l).filter acr).length
theorem p_kindsR {s : Str} (hs : IO s) {l : List Int} {k : Nat} (hl : Lac l k) : ∃ a b : Int, callN Γl (n + 4) "kinds" [lD s l] m = .ok (.tup [.int a, .int b, .int ((2 * (k : Int) - 1) - (acN l : Nat))]) m := by
  have e1 := p_needR (n := n) (m := m) hs hl
  have e2 := p_kinds_of (Γ := Γl) (n := n + 1) (m := m) rfl rfl rfl l hl.len
  have hn : ((prs l).length : Int) = 2 * (k : Int) - 1 := by
    have h1 := hl.1
    have h2 := hl.2.1
    rw [prs_len, h1]
    omega
  rw [hn] at e2
  generalize ((((prs l).filter fun p => decide (p.1 / 2 = p.2 / 2)).length : Nat) : Int) = x at e2
  refine ⟨x, (((prs l).filter acr).length : Nat) - x, ?_⟩
  unfold lD acN at *
  rw [callN_eq (F := f_kinds) rfl rfl]
  simp -implicitDefEqProofs [f_kinds, a_kinds, e1, e2]
theorem p_holdsR {s : Str} (hs : IO s) {l : List Int} {k : Nat} (hl : Lac l k) : callN Γl (n + 4) "holds" [lD s l] m = .ok (.bl (holdB l)) m := by
  have e1 := p_needR (n := n) (m := m) hs hl
  have e2 := p_holding (Γ := Γl) (n := n) (m := m) rfl rfl rfl rfl l hl.len
  rw [callN_eq (F := f_holds) rfl rfl]
  unfold lD at e1 ⊢
  simp [f_holds, a_holds, e1, e2]
/-! ### the instance -/
def insC (s : Str) (l : List Int) : Cell := .ins "Lacing" [("pair", lD s l), ("pictures", .tup [picD (outI (s, l)), picD (inI (s, l))])]
theorem at_end {α : Type} (l : List α) (c : α) : (l ++ [c])[l.length]? = some c := by simp
theorem setF_end {C f : Str} {fs : List (Str × D)} {y : D} (h : fs.length < 100) : setF (.ref m.length) C f y (m ++ [.ins C fs]) = .ok () (m ++ [.ins C (putFD f y fs)]) := by
  simp only [setF]
  rw [at_end]
  simp only [true_and]
  rw [if_pos h]
  simp
theorem insOf_end {C : Str} {fs : List (Str × D)} : insOf (m ++ [.ins C fs]) (.ref m.length) = some (C, fs) := insOf_cell (at_end m _)
theorem L_init {s : Str} (hs : IO s) {l : List Int} {k : Nat} (hl : Lac l k) : callN Γl (n + 5) "Lacing.__init__" [.ref m.length, .str s, .tup (l.map .int)] (m ++ [.ins "Lacing" []]) = .ok .non (m ++ [insC s l]) := by
  have e1 := p_needR (n := n + 1) (m := m ++ [.ins "Lacing" []]) hs hl
  have e2 := p_outR (n := n + 1) (m := m ++ [.ins "Lacing" [("pair", lD s l)]]) hs l hl.len
  have e3 := p_inR (n := n + 1) (m := m ++ [.ins "Lacing" [("pair", lD s l)]]) hs l hl.len
  have f1 := setF_end (m := m) (C := "Lacing") (f := "pair") (fs := []) (y := lD s l) (by simp)
  have f2 := setF_end (m := m) (C := "Lacing") (f := "pictures") (fs := [("pair", lD s l)]) (y := .tup [picD (outI (s, l)), picD (inI (s, l))]) (by simp)
  have i1 := insOf_end (m := m) (C := "Lacing") (fs := [("pair", lD s l)])
  have hl1 : (D.tup [.str s, .tup (l.map .int)]) = lD s l := rfl
  have q1 : putFD "pair" (lD s l) [] = [(("pair" : Str), lD s l)] := rfl
  have q2 : putFD "pictures" (.tup [picD (outI (s, l)), picD (inI (s, l))]) [("pair", lD s l)] = [(("pair" : Str), lD s l), (("pictures" : Str), .tup [picD (outI (s, l)), picD (inI (s, l))])] := by
    simp only [putFD]
    rw [if_neg (by decide +kernel)]
  have q3 : List.lookup ("pair" : Str) [("pair", lD s l)] = some (lD s l) := by simp [List.lookup]
  rw [callN_eq (F := f_Lacing_init) rfl rfl]
  rw [q1] at f1
  rw [q2] at f2
  simp -implicitDefEqProofs [f_Lacing_init, a_Lacing_init, hl1, e1, e2, e3, f1, f2, i1, q3, insC]
theorem ten2 {l : List Int} (h : l.length = 2) : ∃ a b, l = [a, b] := match l, h with
  | [a, b], _ => ⟨_, _, rfl⟩
theorem ten4 {l : List Int} (h : l.length = 4) : ∃ a b c d, l = [a, b, c, d] := match l, h with
  | [a, b, c, d], _ => ⟨_, _, _, _, rfl⟩
theorem ten6 {l : List Int} (h : l.length = 6) : ∃ a b c d e f, l = [a, b, c, d, e, f] := match l, h with
  | [a, b, c, d, e, f], _ => ⟨_, _, _, _, _, _, rfl⟩
theorem at3 {α : Type} {l : List α} {a b c d : α} : atI (a :: b :: c :: d :: l) 3 = some d := at_nat 3
theorem at4 {α : Type} {l : List α} {a b c d e : α} : atI (a :: b :: c :: d :: e :: l) 4 = some e := at_nat 4
theorem at5 {α : Type} {l : List α} {a b c d e f : α} : atI (a :: b :: c :: d :: e :: f :: l) 5 = some f := at_nat 5
theorem L_value {s : Str} (hs : IO s) {l : List Int} {k : Nat} (hl : Lac l k) (hk : k ≤ 3) : callN Γl (n + 6) "_law_value" [lD s l] m = .ok (.ref m.length) (m ++ [insC s l]) := by
  have e := L_init (n := n) (m := m) hs hl
  have h1 := hl.1
  have h2 := hl.2.1
  rw [callN_eq (F := f_law_value) rfl rfl]
  unfold lD
  obtain rfl | rfl | rfl : k = 1 ∨ k = 2 ∨ k = 3 := by omega
  · obtain ⟨a, b, rfl⟩ := ten2 (by omega)
    simp only [List.map_cons, List.map_nil] at e
    simp -implicitDefEqProofs [f_law_value, a_law_value, e]
  · obtain ⟨a, b, c, d, rfl⟩ := ten4 (by omega)
    simp only [List.map_cons, List.map_nil] at e
    simp -implicitDefEqProofs [f_law_value, a_law_value, e, at3]
  · obtain ⟨a, b, c, d, f, g, rfl⟩ := ten6 (by omega)
    simp only [List.map_cons, List.map_nil] at e
    simp -implicitDefEqProofs [f_law_value, a_law_value, e, at3, at4, at5]
end
end LR

set_option Elab.async false
set_option linter.all false
set_option maxRecDepth 100000
set_option maxHeartbeats 4000000
namespace LR
open PySem PySem.Spec PyProof.Rows L2
section
variable {n : Nat} {m : Mem} {a : Nat} {s : Str} {l : List Int} {k : Nat}
theorem ic_of (ha : m[a]? = some (insC s l)) : insOf m (.ref a) = some (("Lacing" : Str), [((("pair" : Str)), lD s l), (("pictures" : Str), .tup [picD (outI (s, l)), picD (inI (s, l))])]) := insOf_cell ha
theorem lk_pair {x : D} {r : List (Str × D)} : List.lookup ("pair" : Str) ((("pair" : Str), x) :: r) = some x := by simp [List.lookup]
theorem pp_ne : (("pictures" : Str) == ("pair" : Str)) = false := by decide +kernel
theorem lk_pics {x y : D} : List.lookup ("pictures" : Str) [(("pair" : Str), x), (("pictures" : Str), y)] = some y := by
  rw [List.lookup_cons, pp_ne]
  simp [List.lookup]
theorem L_source (ha : m[a]? = some (insC s l)) : callN Γl (n + 1) "Lacing.source" [.ref a] m = .ok (lD s l) m := by
  rw [callN_eq (F := f_Lacing_source) rfl rfl]
  simp -implicitDefEqProofs [f_Lacing_source, a_Lacing_source, ic_of ha, lk_pair]
theorem L_size (hl : Lac l k) (ha : m[a]? = some (insC s l)) : callN Γl (n + 2) "Lacing.size" [.ref a] m = .ok (.int (k : Int)) m := by
  have e := p_size_of (Γ := Γl) (n := n) (m := m) rfl s hl
  rw [callN_eq (F := f_Lacing_size) rfl rfl]
  simp -implicitDefEqProofs [f_Lacing_size, a_Lacing_size, ic_of ha, lk_pair, e]
theorem lD_1 {m : Mem} : semIx (lD s l) (.int 1) m = some (.tup (l.map .int)) := by
  unfold lD
  simp
theorem lD_0 {m : Mem} : semIx (lD s l) (.int 0) m = some (.str s) := by
  unfold lD
  simp
theorem L_len (hl : Lac l k) (ha : m[a]? = some (insC s l)) : callN Γl (n + 3) "Lacing.__len__" [.ref a] m = .ok (.int (acN l : Nat)) m := by
  have hlim : l.length ≤ lim := Nat.le_trans hl.len (by decide)
  have hpl : (prs l).length ≤ lim := by rw [prs_len]; omega
  have e := p_stretches_of (Γ := Γl) (n := n + 1) (m := m) rfl l hlim
  have hc1 := compL_map (f := compF Γl.con (callN Γl (n + 2)) (.c (.int 1)) true [1, 2] (.call "is_across" (.cons (.v 1) (.cons (.v 2) .nil))) [some (.ref a), none, none]) pD acr (fun _ => .int 1) (fun p m => by
    have e : acr p = !decide (p.1 % 2 = p.2 % 2) := rfl
    have h3 : Γl.fn "is_across" = some f_is_across := rfl
    by_cases hm : p.1 % 2 = p.2 % 2 <;> simp [compF, E.isNop, pD, p_is_across h3, e, hm]) (prs l) [] m
  simp only [List.nil_append] at hc1
  rw [callN_eq (F := f_Lacing_len) rfl rfl]
  simp -implicitDefEqProofs [f_Lacing_len, a_Lacing_len, ic_of ha, lk_pair, lD_1, e, hpl, hc1, acN, -z_ix]
@[simp] theorem b_bool {b : Bool} : semBi .bool [.bl b] m = some (.bl b) := rfl
theorem L_bool (hl : Lac l k) (ha : m[a]? = some (insC s l)) : callN Γl (n + 4) "Lacing.__bool__" [.ref a] m = .ok (.bl (holdB l)) m := by
  have e2 := p_holding (Γ := Γl) (n := n) (m := m) rfl rfl rfl rfl l hl.len
  rw [callN_eq (F := f_Lacing_bool) rfl rfl]
  simp -implicitDefEqProofs [f_Lacing_bool, a_Lacing_bool, ic_of ha, lk_pair, lD_1, e2, -z_ix]
theorem L_get (ha : m[a]? = some (insC s l)) {i : Nat} {x : Int} (hi : l[i]? = some x) : callN Γl (n + 2) "Lacing.__getitem__" [.ref a, .int (i : Int)] m = .ok (.int x) m := by
  have hlt : i < l.length := (List.getElem?_eq_some_iff.mp hi).1
  have e := p_is_between (Γ := Γl) (n := n) (m := m) rfl (i : Int) 0 ((l.length : Int) - 1)
  rw [show decide (0 ≤ (i : Int)) = true from decide_eq_true (by omega), show decide ((i : Int) ≤ (l.length : Int) - 1) = true from decide_eq_true (by omega)] at e
  have g : atI (l.map D.int) (i : Int) = some (.int x) := by
    rw [at_nat, List.getElem?_map, hi]
    rfl
  rw [callN_eq (F := f_Lacing_getitem) rfl rfl]
  simp -implicitDefEqProofs [f_Lacing_getitem, a_Lacing_getitem, ic_of ha, lk_pair, lD_1, e, z_ixT, g, -z_ix]
/-- what no place is -/
theorem bt_any {d : D} (lo hi : Int) (h : d = .non ∨ d = .bl true ∨ ∃ i, d = .int i ∧ ¬ (lo ≤ i ∧ i ≤ hi)) : callN Γl (n + 1) "is_between" [d, .int lo, .int hi] m = .ok (.bl false) m := by
  rcases h with rfl | rfl | ⟨i, rfl, h⟩
  · have k1 : semIsi "int" D.non m = some (.bl false) := by show (kitB "NoneType" "int").map D.bl = _; rw [show kitB "NoneType" "int" = some false by decide +kernel]; rfl
    rw [callN_eq (F := f_is_between) rfl rfl]
    simp -implicitDefEqProofs [f_is_between, a_is_between, k1]
  · have k1 : semIsi "int" (D.bl true) m = some (.bl true) := by show (kitB "bool" "int").map D.bl = _; rw [show kitB "bool" "int" = some true by decide +kernel]; rfl
    rw [callN_eq (F := f_is_between) rfl rfl]
    simp -implicitDefEqProofs [f_is_between, a_is_between, k1]
  · rw [p_is_between rfl]
    have : (decide (lo ≤ i) && decide (i ≤ hi)) = false := by
      rw [Bool.and_eq_false_iff]
      by_cases h1 : lo ≤ i
      · exact .inr (decide_eq_false fun h2 => h ⟨h1, h2⟩)
      · exact .inl (decide_eq_false h1)
    rw [this]
theorem L_getX (ha : m[a]? = some (insC s l)) {d : D} (h : d = .non ∨ d = .bl true ∨ ∃ i, d = .int i ∧ ¬ (0 ≤ i ∧ i ≤ (l.length : Int) - 1)) : callN Γl (n + 2) "Lacing.__getitem__" [.ref a, d] m = .exc ⟨"InvalidPlace", []⟩ m := by
  have e := bt_any (n := n) (m := m) 0 ((l.length : Int) - 1) h
  rw [callN_eq (F := f_Lacing_getitem) rfl rfl]
  simp -implicitDefEqProofs [f_Lacing_getitem, a_Lacing_getitem, ic_of ha, lk_pair, lD_1, e, -z_ix]
theorem L_nothing (ha : m[a]? = some (insC s l)) {d : D} (h : d = .non ∨ d = .bl true ∨ ∃ i, d = .int i ∧ ¬ (0 ≤ i ∧ i ≤ (l.length : Int) - 1)) : callN Γl (n + 3) "_law_nothing" [.ref a, d] m = .ok (.bl true) m := by
  have e := L_getX (n := n) ha h
  have ht : tab "InvalidPlace" [("InvalidPlace", D.bl true)] = some (.bl true) := rfl
  rw [callN_eq (F := f_law_nothing) rfl rfl]
  simp -implicitDefEqProofs [f_law_nothing, a_law_nothing, ic_of ha, instK2, otherK2, kindK2, e, ht]
theorem lac_rev' (h : Lac l k) : Lac l.reverse k := by simpa using h.turned 0
theorem out_rev (h : Lac l k) : outI (s, l.reverse) = outI (s, l) := by
  unfold outI
  exact pic_rev h (by unfold fO; split <;> decide)
theorem in_rev (h : Lac l k) : inI (s, l.reverse) = inI (s, l) := by
  unfold inI
  exact pic_rev h (by unfold fI; split <;> decide)
theorem L_neg (hs : IO s) (hl : Lac l k) (ha : m[a]? = some (insC s l)) : callN Γl (n + 6) "Lacing.__neg__" [.ref a] m = .ok (.ref m.length) (m ++ [insC s l.reverse]) := by
  have e := L_init (n := n) (m := m) hs (lac_rev' hl)
  rw [List.map_reverse] at e
  rw [callN_eq (F := f_Lacing_neg) rfl rfl]
  simp -implicitDefEqProofs [f_Lacing_neg, a_Lacing_neg, ic_of ha, lk_pair, lD_1, lD_0, e, -z_ix]
/-! ### == -/
def ppD (p : List (Int × Int) × List (Int × Int)) : D := .tup [picD p.1, picD p.2]
theorem encPP : Enc ppD 3 := encP.tup.pair encP.tup
theorem eqD_pp (p q : List (Int × Int) × List (Int × Int)) : eqD (ppD p) (ppD q) = some (decide (p = q)) := encPP.eqD (by decide) p q
def pxI (s : Str) (l : List Int) : List (Int × Int) × List (Int × Int) := (outI (s, l), inI (s, l))
variable {b : Nat} {t : Str} {r : List Int}
theorem L_eq (ha : m[a]? = some (insC s l)) (hb : m[b]? = some (insC t r)) : callN Γl (n + 1) "Lacing.__eq__" [.ref a, .ref b] m = .ok (.bl (decide (pxI s l = pxI t r))) m := by
  have e := eqD_pp (pxI s l) (pxI t r)
  have e1 : ppD (pxI s l) = .tup [picD (outI (s, l)), picD (inI (s, l))] := rfl
  have e2 : ppD (pxI t r) = .tup [picD (outI (t, r)), picD (inI (t, r))] := rfl
  rw [e1, e2] at e
  have i : semIso "Lacing" (.ref b) m = some (.bl true) := by
    unfold semIso
    simp only
    rw [hb]
    simp [insC]
  rw [callN_eq (F := f_Lacing_eq) rfl rfl]
  simp -implicitDefEqProofs [f_Lacing_eq, a_Lacing_eq, i, ic_of ha, ic_of hb, lk_pics, e]
theorem L_eqT {q : List D} : callN Γl (n + 1) "Lacing.__eq__" [.ref a, .tup q] m = .ok (.bl false) m := by
  have i : semIso "Lacing" (.tup q) m = some (.bl false) := rfl
  rw [callN_eq (F := f_Lacing_eq) rfl rfl]
  simp -implicitDefEqProofs [f_Lacing_eq, a_Lacing_eq, i]
theorem L_eqI {q : Int} : callN Γl (n + 1) "Lacing.__eq__" [.ref a, .int q] m = .ok (.bl false) m := by
  have i : semIso "Lacing" (.int q) m = some (.bl false) := rfl
  rw [callN_eq (F := f_Lacing_eq) rfl rfl]
  simp -implicitDefEqProofs [f_Lacing_eq, a_Lacing_eq, i]
end
end LR

set_option Elab.async false
set_option linter.all false
set_option maxRecDepth 100000
set_option maxHeartbeats 4000000
namespace LR
open PySem PySem.Spec PyProof.Rows L2
abbrev law_b2_h0 : S := (.asg (.nm 4) (.o2 .add (.c (.int 1)) (.call "_law_draw" (.cons (.v 2) (.cons (.c (.int 3)) .nil)))))
abbrev law_b2_h1 : S := (.par [5, 6] (.cons (.call "_law_lacing" (.cons (.v 2) (.cons (.v 4) .nil))) (.cons (.call "_law_lacing" (.cons (.v 2) (.cons (.v 4) .nil))) .nil)))
abbrev law_b2_h2 : S := (.asg (.nm 6) (.call "_law_choice" (.cons (.v 2) (.cons (.nl false (.disp (.cons (.v 6) (.cons (.tup (.cons (.idx (.v 5) (.c (.int 0))) (.cons (.o1 .rev (.idx (.v 5) (.c (.int 1)))) .nil))) (.cons (.tup (.cons (.idx (.v 6) (.c (.int 0))) (.cons (.idx (.v 5) (.c (.int 1))) .nil))) .nil))))) .nil))))
abbrev law_b2_h3 : S := (.tpl [.nm 7, .nm 8] (.tup (.cons (.call "_law_value" (.cons (.v 5) .nil)) (.cons (.call "_law_value" (.cons (.v 6) .nil)) .nil))))
abbrev law_b2_h4 : S := (.ite (.or (.o2 .ne (.prp (.v 7) "Lacing" "source" "Lacing.source") (.v 5)) (.o2 .ne (.prp (.v 7) "Lacing" "size" "Lacing.size") (.v 4))) (.seq (.ret (.c (.bl false))) .nop) .nop)
abbrev law_b2_h5 : S := (.ite (.o2 .ne (.oo1 .len "Lacing" "Lacing.__len__" (.v 7)) (.o2 .sub (.o2 .sub (.o2 .mul (.c (.int 2)) (.v 4)) (.c (.int 1))) (.idx (.call "kinds" (.cons (.v 5) .nil)) (.c (.int 2))))) (.seq (.ret (.c (.bl false))) .nop) .nop)
abbrev law_b2_h6 : S := (.ite (.or (.o2 .ne (.nl false (.comp (.oo2 .get "Lacing" "Lacing.__getitem__" (.v 7) (.v 15)) false [15] (.rng (.cons (.o2 .mul (.c (.int 2)) (.v 4)) .nil)) .nop)) (.nl false (.cp (.idx (.v 5) (.c (.int 1)))))) (.o2 .ne (.oo1 .tru "Lacing" "Lacing.__bool__" (.v 7)) (.call "holds" (.cons (.v 5) .nil)))) (.seq (.ret (.c (.bl false))) .nop) .nop)
abbrev law_b2_h7 : S := (.asg (.nm 9) (.oo1 .neg "Lacing" "Lacing.__neg__" (.v 7)))
abbrev law_b2_h8 : S := (.ite (.or (.o2 .ne (.prp (.v 9) "Lacing" "source" "Lacing.source") (.tup (.cons (.idx (.v 5) (.c (.int 0))) (.cons (.o1 .rev (.idx (.v 5) (.c (.int 1)))) .nil)))) (.or (.oo2 .ne "Lacing" "Lacing.__eq__" (.v 9) (.v 7)) (.oo2 .ne "Lacing" "Lacing.__eq__" (.oo1 .neg "Lacing" "Lacing.__neg__" (.v 9)) (.v 7)))) (.seq (.ret (.c (.bl false))) .nop) .nop)
abbrev law_b2_h9 : S := (.asg (.nm 10) (.tup (.cons (.call "_law_outer" (.cons (.v 5) .nil)) (.cons (.call "_law_inner" (.cons (.v 5) .nil)) .nil))))
abbrev law_b2_h10 : S := (.ite (.o2 .ne (.oo2 .eq "Lacing" "Lacing.__eq__" (.v 7) (.v 8)) (.o2 .eq (.v 10) (.tup (.cons (.call "_law_outer" (.cons (.v 6) .nil)) (.cons (.call "_law_inner" (.cons (.v 6) .nil)) .nil))))) (.seq (.ret (.c (.bl false))) .nop) .nop)
abbrev law_b2_h11 : S := (.asg (.nm 11) (.o2 .add (.call "_law_outer" (.cons (.v 5) .nil)) (.call "_law_inner" (.cons (.v 5) .nil))))
abbrev law_b2_h12 : S := (.loop false [12] (.rng (.cons (.o2 .mul (.c (.int 2)) (.v 4)) .nil)) law_b3)
abbrev law_b2_h13 : S := (.asg (.nm 14) (.call "_law_choice" (.cons (.v 2) (.cons (.nl false (.disp (.cons (.c .non) (.cons (.c (.int 0)) (.cons (.nl false (.disp (.cons (.c (.int 0)) (.cons (.c (.int 1)) .nil)))) (.cons (.tup (.cons (.c (.int 0)) .nil)) (.cons (.tup (.cons (.c (.int 0)) (.cons (.c (.int 1)) (.cons (.c (.int 2)) .nil)))) (.cons (.c (.str "01")) (.cons (.tup (.cons (.c (.bl true)) (.cons (.c (.int 0)) .nil))) (.cons (.tup (.cons (.c (.str "0")) (.cons (.c (.str "1")) .nil))) .nil)))))))))) .nil))))
abbrev law_b2_h14 : S := (.ite (.or (.o2 .isn (.oo2 .inn "Lacing" "Lacing.__contains__" (.v 14) (.v 7)) (.c (.bl false))) (.or (.oo2 .eq "Lacing" "Lacing.__eq__" (.v 7) (.v 5)) (.oo2 .eq "Lacing" "Lacing.__eq__" (.v 7) (.c (.int 5))))) (.seq (.ret (.c (.bl false))) .nop) .nop)
abbrev law_b2_h15 : S := (.ite (.no (.call "_law_nothing" (.cons (.v 7) (.cons (.call "_law_choice" (.cons (.v 2) (.cons (.nl false (.disp (.cons (.o1 .neg (.c (.int 1))) (.cons (.o2 .mul (.c (.int 2)) (.v 4)) (.cons (.c .non) (.cons (.c (.bl true)) .nil)))))) .nil))) .nil)))) (.seq (.ret (.c (.bl false))) .nop) .nop)
abbrev law_b2_t15 : S := .seq law_b2_h15 .nop
abbrev law_b2_t14 : S := .seq law_b2_h14 law_b2_t15
abbrev law_b2_t13 : S := .seq law_b2_h13 law_b2_t14
abbrev law_b2_t12 : S := .seq law_b2_h12 law_b2_t13
abbrev law_b2_t11 : S := .seq law_b2_h11 law_b2_t12
abbrev law_b2_t10 : S := .seq law_b2_h10 law_b2_t11
abbrev law_b2_t9 : S := .seq law_b2_h9 law_b2_t10
abbrev law_b2_t8 : S := .seq law_b2_h8 law_b2_t9
abbrev law_b2_t7 : S := .seq law_b2_h7 law_b2_t8
abbrev law_b2_t6 : S := .seq law_b2_h6 law_b2_t7
abbrev law_b2_t5 : S := .seq law_b2_h5 law_b2_t6
abbrev law_b2_t4 : S := .seq law_b2_h4 law_b2_t5
abbrev law_b2_t3 : S := .seq law_b2_h3 law_b2_t4
abbrev law_b2_t2 : S := .seq law_b2_h2 law_b2_t3
abbrev law_b2_t1 : S := .seq law_b2_h1 law_b2_t2
theorem law_b2_cut : law_b2 = .seq law_b2_h0 law_b2_t1 := rfl
section
variable {n : Nat} {m : Mem} {a : Nat} {s : Str} {l : List Int} {k : Nat}
theorem sort_two (i j : Int) : [i, j].mergeSort (fun a b => decide (a ≤ b)) = [(mm (i, j)).1, (mm (i, j)).2] := by
  refine sortI_eq ?_ ?_
  · rcases mm_cases i j with h | h
    · rw [h]
    · rw [h]
      exact List.Perm.swap j i []
  · simp only [List.pairwise_cons, List.mem_singleton, forall_eq, decide_eq_true_eq, List.not_mem_nil, false_implies, implies_true, List.Pairwise.nil, and_true]
    unfold mm
    simp only
    split <;> split <;> omega
theorem inD_pD (p : Int × Int) (q : List (Int × Int)) : inD (pD p) (q.map pD) = some (decide (p ∈ q)) := (encP.inD (by decide) (fun _ => rfl) p q).trans (congrArg some (decide_eq_decide.mpr Iff.rfl))
/-- both pictures, one behind the other -/
def allP (s : Str) (l : List Int) : List (Int × Int) := outI (s, l) ++ inI (s, l)
theorem in_len (s : Str) {l : List Int} {k : Nat} (hl : Lac l k) : (inI (s, l)).length ≤ 1000 := by
  have h1 := hl.1
  have h2 := hl.2.2.1
  unfold inI
  rw [pic_len]
  show (l.length - 1 - fI s + 1) / 2 ≤ 1000
  omega
theorem pics_add (hl : Lac l k) : sem2 .add (picD (outI (s, l))) (picD (inI (s, l))) m = some (.tup ((allP s l).map pD)) := by
  have h1 := out_len s hl
  have h2 := in_len s hl
  unfold picD allP
  rw [z_addT, if_pos (by rw [List.length_map, List.length_map]; show _ ≤ 1000000; omega), List.map_append]
theorem L_contains (hl : Lac l k) (ha : m[a]? = some (insC s l)) {i j : Int} (hi : 0 ≤ i ∧ i ≤ 99) (hj : 0 ≤ j ∧ j ≤ 99) : callN Γl (n + 2) "Lacing.__contains__" [.ref a, .tup [.int i, .int j]] m = .ok (.bl (decide (mm (i, j) ∈ allP s l))) m := by
  have b1 : ∀ m, callN Γl (n + 1) "is_between" [.int i, .int 0, .int 99] m = .ok (.bl true) m := fun m => by
    rw [p_is_between rfl]; simp [hi]
  have b2 : ∀ m, callN Γl (n + 1) "is_between" [.int j, .int 0, .int 99] m = .ok (.bl true) m := fun m => by
    rw [p_is_between rfl]; simp [hj]
  have hc : compL (compF Γl.con (callN Γl (n + 1)) (.call "is_between" (.cons (.v 2) (.cons (.c (.int 0)) (.cons (.c (.int 99)) .nil)))) false [2] .nop [some (.ref a), some (.tup [.int i, .int j]), none]) [.int i, .int j] [] m = .ok [.bl true, .bl true] m := by
    simp -implicitDefEqProofs [compL, compF, E.isNop, b1, b2]
  have hs := sort_ints (l := [i, j]) (by show 2 ≤ 1000000; decide)
  rw [sort_two] at hs
  have s3 : semN1 3 (.tup [.int i, .int j]) m = some [.int (mm (i, j)).1, .int (mm (i, j)).2] := by
    show (if sortOk [.int i, .int j] = true then some (sortD [.int i, .int j]) else none) = _
    have h1 : sortOk [D.int i, D.int j] = true := hs.1
    rw [if_pos h1]
    exact congrArg some hs.2
  have ad := pics_add (m := m) (s := s) hl
  have q := inD_pD (mm (i, j)) (allP s l)
  unfold pD at q
  have ix0 : semIx (.tup [picD (outI (s, l)), picD (inI (s, l))]) (.int 0) m = some (picD (outI (s, l))) := by simp
  have ix1 : semIx (.tup [picD (outI (s, l)), picD (inI (s, l))]) (.int 1) m = some (picD (inI (s, l))) := by simp
  have q' : inD (.tup [.int (mm (i, j)).1, .int (mm (i, j)).2]) ((allP s l).map pD) = some (decide (mm (i, j) ∈ allP s l)) := q
  generalize (allP s l).map pD = al at ad q'
  rw [callN_eq (F := f_Lacing_contains) rfl rfl]
  simp -implicitDefEqProofs [f_Lacing_contains, a_Lacing_contains, hc, s3, ic_of ha, lk_pics, ix0, ix1, ad, q', toBls, -z_ix]
/-! ### what is no pair -/
def odds : List D := [.non, .int 0, .lst [.int 0, .int 1], .tup [.int 0], .tup [.int 0, .int 1, .int 2], .str "01", .tup [.bl true, .int 0], .tup [.str "0", .str "1"]]
theorem kt : kitB "NoneType" "tuple" = some false ∧ kitB "int" "tuple" = some false ∧ kitB "list" "tuple" = some false ∧ kitB "str" "tuple" = some false ∧ kitB "str" "int" = some false := by decide +kernel
theorem L_odd (ha : m[a]? = some (insC s l)) {d : D} (hd : d ∈ odds) : callN Γl (n + 2) "Lacing.__contains__" [.ref a, d] m = .ok (.bl false) m := by
  obtain ⟨k1, k2, k3, k4, k5⟩ := kt
  have t1 : semIsi "tuple" D.non m = some (.bl false) := by show (kitB "NoneType" "tuple").map D.bl = _; rw [k1]; rfl
  have t2 : ∀ i, semIsi "tuple" (D.int i) m = some (.bl false) := fun i => by show (kitB "int" "tuple").map D.bl = _; rw [k2]; rfl
  have t3 : ∀ i, semIsi "tuple" (D.lst i) m = some (.bl false) := fun i => by show (kitB "list" "tuple").map D.bl = _; rw [k3]; rfl
  have t4 : ∀ i, semIsi "tuple" (D.str i) m = some (.bl false) := fun i => by show (kitB "str" "tuple").map D.bl = _; rw [k4]; rfl
  have b0 : callN Γl (n + 1) "is_between" [.int 0, .int 0, .int 99] m = .ok (.bl true) m := by rw [p_is_between rfl]; rfl
  have b1 := bt_any (n := n) (m := m) (d := .bl true) 0 99 (.inr (.inl rfl))
  have b2 : ∀ z, callN Γl (n + 1) "is_between" [.str z, .int 0, .int 99] m = .ok (.bl false) m := fun z => by
    have k : semIsi "int" (D.str z) m = some (.bl false) := by show (kitB "str" "int").map D.bl = _; rw [k5]; rfl
    rw [callN_eq (F := f_is_between) rfl rfl]
    simp -implicitDefEqProofs [f_is_between, a_is_between, k]
  rw [callN_eq (F := f_Lacing_contains) rfl rfl]
  simp only [odds, List.mem_cons, List.not_mem_nil, or_false] at hd
  rcases hd with rfl | rfl | rfl | rfl | rfl | rfl | rfl | rfl
  · simp -implicitDefEqProofs [f_Lacing_contains, a_Lacing_contains, t1]
  · simp -implicitDefEqProofs [f_Lacing_contains, a_Lacing_contains, t2]
  · simp -implicitDefEqProofs [f_Lacing_contains, a_Lacing_contains, t3]
  · simp -implicitDefEqProofs [f_Lacing_contains, a_Lacing_contains]
  · simp -implicitDefEqProofs [f_Lacing_contains, a_Lacing_contains]
  · simp -implicitDefEqProofs [f_Lacing_contains, a_Lacing_contains, t4]
  · simp -implicitDefEqProofs [f_Lacing_contains, a_Lacing_contains, compL, compF, E.isNop, b0, b1, toBls]
  · simp -implicitDefEqProofs [f_Lacing_contains, a_Lacing_contains, compL, compF, E.isNop, b2, toBls]
end
end LR

set_option Elab.async false
set_option linter.all false
set_option maxRecDepth 100000
set_option maxHeartbeats 4000000
namespace LR
open PySem PySem.Spec PyProof.Rows L2
section
variable {n : Nat} {m : Mem} {a : Nat} {s : Str} {l : List Int} {k : Nat}
theorem eqD_lD (hs : IO s) : eqD (lD s l) (lD s l) = some true := by
  obtain ⟨b, rfl⟩ : ∃ b, s = stS b := by
    rcases hs with rfl | rfl
    · exact ⟨false, rfl⟩
    · exact ⟨true, rfl⟩
  have e := encL.eqD (by decide) (b, l) (b, l)
  rw [decide_eq_true rfl] at e
  exact e
/-- one pair of holes -/
theorem pair_c (hl : Lac l k) (ha : m[a]? = some (insC s l)) {i j : Nat} (hi : i < 100) (hj : j < 100) (a0 a1 a2 a3 a4 a5 a6 a8 a9 a10 a14 a15 : Option D) :
    evS Γl.con (callN Γl 19) law_b4 [a0, a1, a2, a3, a4, a5, a6, some (.ref a), a8, a9, a10, some (.tup ((allP s l).map pD)), some (iD i), some (iD j), a14, a15] m =
      .ok (.nx [a0, a1, a2, a3, a4, a5, a6, some (.ref a), a8, a9, a10, some (.tup ((allP s l).map pD)), some (iD i), some (iD j), a14, a15]) m := by
  have e := L_contains (n := 17) (m := m) hl ha (i := (i : Int)) (j := (j : Int)) (by omega) (by omega)
  have q : inD (.tup [.int (mm ((i : Int), (j : Int))).1, .int (mm ((i : Int), (j : Int))).2]) ((allP s l).map pD) = some (decide (mm ((i : Int), (j : Int)) ∈ allP s l)) := inD_pD (mm ((i : Int), (j : Int))) (allP s l)
  have mn : semBi .min [.int (i : Int), .int (j : Int)] m = some (.int (mm ((i : Int), (j : Int))).1) := rfl
  have mx : semBi .max [.int (i : Int), .int (j : Int)] m = some (.int (mm ((i : Int), (j : Int))).2) := rfl
  generalize decide (mm ((i : Int), (j : Int)) ∈ allP s l) = B at e q
  generalize (mm ((i : Int), (j : Int))).1 = p1 at q mn
  generalize (mm ((i : Int), (j : Int))).2 = p2 at q mx
  generalize (allP s l).map pD = al at q
  have eb := eqD_bl B B
  rw [beq_self_eq_true] at eb
  unfold iD
  simp -implicitDefEqProofs [law_b4, ic_of ha, instK2, otherK2, kindK2, backK2, e, mn, mx, q, eb, -b_min2i, -b_max2]
theorem row_c (hl : Lac l k) (ha : m[a]? = some (insC s l)) {i : Nat} (hi : i < 100) (a0 a1 a2 a3 a5 a6 a8 a9 a10 a13 a14 a15 : Option D) :
    ∃ b13, evS Γl.con (callN Γl 19) law_b3 [a0, a1, a2, a3, some (.int (k : Int)), a5, a6, some (.ref a), a8, a9, a10, some (.tup ((allP s l).map pD)), some (iD i), a13, a14, a15] m =
      .ok (.nx [a0, a1, a2, a3, some (.int (k : Int)), a5, a6, some (.ref a), a8, a9, a10, some (.tup ((allP s l).map pD)), some (iD i), b13, a14, a15]) m := by
  have h1 := hl.2.1
  have h2 := hl.2.2.1
  have hmul : sem2 .mul (.int 2) (.int (k : Int)) m = some (.int (2 * (k : Int))) := z_mulL (by decide) (by decide)
  have hra := semR1 (j := 2 * (k : Int)) (by omega) (by omega)
  rw [show (2 * (k : Int)).toNat = 2 * k by omega] at hra
  obtain ⟨s', m', e, rfl, b13, rfl⟩ := forL_inv (f := loopF Γl.con (callN Γl 19) false [13] law_b4) (fun _ s' m' => m' = m ∧ ∃ x, s' = [a0, a1, a2, a3, some (.int (k : Int)), a5, a6, some (.ref a), a8, a9, a10, some (.tup ((allP s l).map pD)), some (iD i), x, a14, a15]) ((List.range (2 * k)).map iD) 0 _ m ⟨rfl, a13, rfl⟩ (fun j d s' m' hd ⟨h1, x, h2⟩ => by
    subst h1 h2
    rw [List.getElem?_map] at hd
    obtain ⟨j', hj', rfl⟩ := Option.map_eq_some_iff.mp hd
    have hj2 := List.mem_range.mp (List.mem_of_getElem? hj')
    exact ⟨_, _, pair_c hl ha hi (by omega) a0 a1 a2 a3 (some (.int (k : Int))) a5 a6 a8 a9 a10 a14 a15, rfl, _, rfl⟩)
  refine ⟨b13, ?_⟩
  generalize (allP s l).map pD = al at e
  generalize (List.range (2 * k)).map iD = its at e hra
  simp -implicitDefEqProofs [law_b3, hmul, hra, e, -z_mul]
theorem rows_c (hl : Lac l k) (ha : m[a]? = some (insC s l)) (a0 a1 a2 a3 a5 a6 a8 a9 a10 a12 a13 a14 a15 : Option D) :
    ∃ b12 b13, evS Γl.con (callN Γl 19) law_b2_h12 [a0, a1, a2, a3, some (.int (k : Int)), a5, a6, some (.ref a), a8, a9, a10, some (.tup ((allP s l).map pD)), a12, a13, a14, a15] m =
      .ok (.nx [a0, a1, a2, a3, some (.int (k : Int)), a5, a6, some (.ref a), a8, a9, a10, some (.tup ((allP s l).map pD)), b12, b13, a14, a15]) m := by
  have h1 := hl.2.1
  have h2 := hl.2.2.1
  have hmul : sem2 .mul (.int 2) (.int (k : Int)) m = some (.int (2 * (k : Int))) := z_mulL (by decide) (by decide)
  have hra := semR1 (j := 2 * (k : Int)) (by omega) (by omega)
  rw [show (2 * (k : Int)).toNat = 2 * k by omega] at hra
  obtain ⟨s', m', e, rfl, b12, b13, rfl⟩ := forL_inv (f := loopF Γl.con (callN Γl 19) false [12] law_b3) (fun _ s' m' => m' = m ∧ ∃ x y, s' = [a0, a1, a2, a3, some (.int (k : Int)), a5, a6, some (.ref a), a8, a9, a10, some (.tup ((allP s l).map pD)), x, y, a14, a15]) ((List.range (2 * k)).map iD) 0 _ m ⟨rfl, a12, a13, rfl⟩ (fun j d s' m' hd ⟨h1, x, y, h2⟩ => by
    subst h1 h2
    rw [List.getElem?_map] at hd
    obtain ⟨j', hj', rfl⟩ := Option.map_eq_some_iff.mp hd
    have hj2 := List.mem_range.mp (List.mem_of_getElem? hj')
    obtain ⟨b13, e⟩ := row_c (m := m') hl ha (i := j') (by omega) a0 a1 a2 a3 a5 a6 a8 a9 a10 y a14 a15
    exact ⟨_, _, e, rfl, _, _, rfl⟩)
  refine ⟨b12, b13, ?_⟩
  generalize (allP s l).map pD = al at e
  generalize (List.range (2 * k)).map iD = its at e hra
  simp -implicitDefEqProofs [law_b2_h12, hmul, hra, e, -z_mul]
end
end LR

set_option Elab.async false
set_option linter.all false
set_option maxRecDepth 100000
set_option maxHeartbeats 4000000
namespace LR
open PySem PySem.Spec PyProof.Rows L2
theorem sixteen {s : Sl} (h : s.length = 16) : ∃ a0 a1 a2 a3 a4 a5 a6 a7 a8 a9 a10 a11 a12 a13 a14 a15, s = [a0, a1, a2, a3, a4, a5, a6, a7, a8, a9, a10, a11, a12, a13, a14, a15] := match s, h with
  | [a0, a1, a2, a3, a4, a5, a6, a7, a8, a9, a10, a11, a12, a13, a14, a15], _ => ⟨_, _, _, _, _, _, _, _, _, _, _, _, _, _, _, _, rfl⟩
theorem kind_ins {m : Mem} {a : Nat} {s : Str} {l : List Int} (h : m[a]? = some (insC s l)) : kindD "Lacing" m (.ref a) = true := by
  unfold kindD
  simp only
  rw [h]
  simp [insC]
/-- a comprehension over members at one memory -/
theorem compL_at {f : D → Mem → R (Option D)} {α : Type} (φ : α → D) (g : α → D) (m : Mem) : ∀ (l : List α) (acc : List D), (∀ a ∈ l, f (φ a) m = .ok (some (g a)) m) → compL f (l.map φ) acc m = .ok (acc ++ l.map g) m
  | [], acc, _ => by simp [compL]
  | a :: l, acc, h => by
    rw [List.map_cons, compL, h a List.mem_cons_self]
    simp only
    rw [compL_at φ g m l _ fun b hb => h b (List.mem_cons_of_mem _ hb)]
    simp
theorem gets_c {m : Mem} {a : Nat} {s : Str} {l : List Int} {k : Nat} (hl : Lac l k) (ha : m[a]? = some (insC s l)) (sl : Sl) (h7 : sl[7]? = some (some (.ref a))) (hs : sl.length = 16) :
    compL (compF Γl.con (callN Γl 19) (.oo2 .get "Lacing" "Lacing.__getitem__" (.v 7) (.v 15)) false [15] .nop sl) ((List.range (2 * k)).map iD) [] m = .ok (l.map .int) m := by
  have h := hl.1
  have hc := compL_at (f := compF Γl.con (callN Γl 19) (.oo2 .get "Lacing" "Lacing.__getitem__" (.v 7) (.v 15)) false [15] .nop sl) iD (fun j => D.int (l.getD j 0)) m (List.range (2 * k)) [] (fun j hj => by
    have hj := List.mem_range.mp hj
    have hx : l[j]? = some (l.getD j 0) := by
      rw [List.getD_eq_getElem?_getD, List.getElem?_eq_getElem (by omega)]
      rfl
    have e := L_get (n := 17) ha hx
    have g15 : ((sl.set 15 none).set 15 (some (iD j)))[15]? = some (some (.int (j : Int))) := by rw [List.getElem?_set_self (by rw [List.length_set]; omega)]; rfl
    have g7 : ((sl.set 15 none).set 15 (some (iD j)))[7]? = some (some (.ref a)) := by rw [List.getElem?_set_ne (by decide), List.getElem?_set_ne (by decide)]; exact h7
    simp only [compF, u_ntp, u_cons, u_nil, u_wc, u_wn]
    generalize (sl.set 15 none).set 15 (some (iD j)) = sl' at g7 g15 ⊢
    simp -implicitDefEqProofs [E.isNop, g7, g15, ic_of ha, instK2, otherK2, kindK2, backK2, e])
  rw [hc, List.nil_append]
  congr 1
  refine List.ext_getElem? fun i => ?_
  rw [List.getElem?_map, List.getElem?_map]
  by_cases hi : i < 2 * k
  · rw [List.getElem?_range hi, List.getElem?_eq_getElem (by omega)]
    simp only [Option.map_some]
    rw [List.getD_eq_getElem?_getD, List.getElem?_eq_getElem (by omega)]
    rfl
  · rw [List.getElem?_eq_none (by simpa using Nat.le_of_not_lt hi), List.getElem?_eq_none (by omega)]
    rfl
/-- a choice of lacings -/
theorem near_c {y : D} {s t0 : Str} {l r0 : List Int} {k : Nat} (hs : IO s) (ht : IO t0) (hl : Lac l k) (hr : Lac r0 k) (h : y ∈ [lD t0 r0, lD s l.reverse, lD t0 l]) : ∃ t r, y = lD t r ∧ IO t ∧ Lac r k := by
  simp only [List.mem_cons, List.not_mem_nil, or_false] at h
  rcases h with rfl | rfl | rfl
  · exact ⟨_, _, rfl, ht, hr⟩
  · exact ⟨_, _, rfl, hs, lac_rev' hl⟩
  · exact ⟨_, _, rfl, ht, hl⟩
end LR

set_option Elab.async false
set_option linter.all false
set_option maxRecDepth 100000
set_option maxHeartbeats 4000000
namespace LR
open PySem PySem.Spec PyProof.Rows L2
theorem bk_len {i : Int} (h : 0 ≤ i) (h2 : i ≤ 1000) : backK1 .len (.int i) = some (.int i) := by
  have h3 : 0 ≤ i ∧ i < 2 ^ 63 := ⟨h, by omega⟩
  simp only [backK1]
  rw [if_pos h3]
theorem turn_c (S0 : Option D) (c : Nat) (s : Sl) (m : Mem) (hs : SrcAt m c) (hl : s.length = 16) (h0 : s[0]? = some S0) (h2 : s[2]? = some (some (.ref c))) :
    ∃ s' m', evS Γl.con (callN Γl 19) law_b2 s m = .ok (.nx s') m' ∧ SrcAt m' c ∧ s'.length = 16 ∧ s'[0]? = some S0 ∧ s'[2]? = some (some (.ref c)) := by
  obtain ⟨a0, a1, a2, a3, a4, a5, a6, a7, a8, a9, a10, a11, a12, a13, a14, a15, rfl⟩ := sixteen hl
  simp only [List.getElem?_cons_zero, List.getElem?_cons_succ, Option.some.injEq] at h0 h2
  subst h0 h2
  obtain ⟨r, m1, e1, r1, x1, l1⟩ := p_drawS (n := 18) hasS hs 3 (by decide) (by decide)
  obtain ⟨k, hk0, hk1, hk3⟩ : ∃ k : Nat, (1 : Int) + (r : Int) = k ∧ 1 ≤ k ∧ k ≤ 3 := ⟨1 + r, by omega, by omega, by omega⟩
  clear r1
  obtain ⟨s, l, m2, e2, hS, hl, x2⟩ := p_lacingS (n := 16) hasS x1.2.1 hk1 (by omega)
  obtain ⟨t0, r0, m3, e3, hT0, hr0, x3⟩ := p_lacingS (n := 16) hasS x2.2.1 hk1 (by omega)
  have hD0 : D.tup [.str s, .tup (l.map D.int).reverse] = lD s l.reverse := by unfold lD; rw [List.map_reverse]
  have hD1 : D.tup [.str t0, .tup (l.map D.int)] = lD t0 l := rfl
  obtain ⟨y, m4, e4, hy, x4, l4⟩ := p_choiceL (n := 17) hasS x3.2.1 [lD t0 r0, lD s l.reverse, lD t0 l] (by simp) (by simp)
  obtain ⟨t, r, rfl, hT, hr⟩ := near_c hS hT0 hl hr0 hy
  -- the two values
  have v5 := L_value (n := 13) (m := m4) hS hl hk3
  obtain ⟨a, hA⟩ : ∃ a, m4.length = a := ⟨_, rfl⟩
  obtain ⟨m5, hm5⟩ : ∃ m5, m4 ++ [insC s l] = m5 := ⟨_, rfl⟩
  have x5 : Mx c m4 m5 := hm5 ▸ Mx.new x4.2.1 _
  have ga5 : m5[a]? = some (insC s l) := by rw [← hm5, ← hA]; exact at_end _ _
  have na : a ≠ c := fun e => by have := x4.2.1.lt; omega
  rw [hA, hm5] at v5
  have v6 := L_value (n := 13) (m := m5) hT hr hk3
  obtain ⟨b, hB⟩ : ∃ b, m5.length = b := ⟨_, rfl⟩
  obtain ⟨m6, hm6⟩ : ∃ m6, m5 ++ [insC t r] = m6 := ⟨_, rfl⟩
  have x6 : Mx c m5 m6 := hm6 ▸ Mx.new x5.2.1 _
  have gb6 : m6[b]? = some (insC t r) := by rw [← hm6, ← hB]; exact at_end _ _
  have nb : b ≠ c := fun e => by have := x5.2.1.lt; omega
  rw [hB, hm6] at v6
  have ga6 := cell_mx x6 ga5 na
  have so6 := L_source (n := 18) ga6
  have sz6 := L_size (n := 17) hl ga6
  have qlD := eqD_lD (l := l) hS
  have dl : ∀ (s : Str) (l : List Int) (m : Mem), (lD s l).deref m = lD s l := fun _ _ _ => rfl
  have ln6 := L_len (n := 16) hl ga6
  have hac : acN l ≤ 1000 := by
    unfold acN
    refine Nat.le_trans (List.length_filter_le _ _) ?_
    have := hl.len
    rw [prs_len]
    omega
  have bk6 : backK1 .len (.int (acN l : Nat)) = some (.int (acN l : Nat)) := by
    exact bk_len (by omega) (by omega)
  obtain ⟨ka, kb', kn6⟩ := p_kindsR (n := 15) (m := m6) hS hl
  have hx6 : 2 * (k : Int) - 1 - (2 * (k : Int) - 1 - (acN l : Nat)) = (acN l : Nat) := by omega
  have hmul : ∀ (i : Int) (m : Mem), sem2 .mul (.int 2) (.int i) m = some (.int (2 * i)) := fun i m => z_mulL (by decide) (by decide)
  have hra := semR1 (j := 2 * (k : Int)) (by omega) (by omega)
  rw [show (2 * (k : Int)).toNat = 2 * k by omega] at hra
  have gc6 := gets_c hl ga6 [a0, a1, some (.ref c), a3, some (.int (k : Int)), some (lD s l), some (lD t r), some (.ref a), some (.ref b), a9, a10, a11, a12, a13, a14, a15] rfl rfl
  have lD1 : ∀ m, semIx (lD s l) (.int 1) m = some (.tup (l.map .int)) := fun m => lD_1
  have qI := eqD_ints l l
  rw [decide_eq_true rfl] at qI
  have bo6 := L_bool (n := 15) hl ga6
  have ho6 := p_holdsR (n := 15) (m := m6) hS hl
  have qB := eqD_bl (holdB l) (holdB l)
  rw [beq_self_eq_true] at qB
  -- the other end
  have ng6 := L_neg (n := 13) hS hl ga6
  obtain ⟨e9, hE⟩ : ∃ e9, m6.length = e9 := ⟨_, rfl⟩
  obtain ⟨m7, hm7⟩ : ∃ m7, m6 ++ [insC s l.reverse] = m7 := ⟨_, rfl⟩
  have x7 : Mx c m6 m7 := hm7 ▸ Mx.new x6.2.1 _
  have ge7 : m7[e9]? = some (insC s l.reverse) := by rw [← hm7, ← hE]; exact at_end _ _
  have ne : e9 ≠ c := fun e => by have := x6.2.1.lt; omega
  rw [hE, hm7] at ng6
  have ga7 := cell_mx x7 ga6 na
  have so7 := L_source (n := 18) ge7
  have hDr := hD0
  have qlR := eqD_lD (l := l.reverse) hS
  have pR : pxI s l.reverse = pxI s l := by unfold pxI; rw [out_rev hl, in_rev hl]
  have eq7 := L_eq (n := 18) ge7 ga7
  rw [pR, decide_eq_true rfl] at eq7
  have ng7 := L_neg (n := 13) hS (lac_rev' hl) ge7
  rw [List.reverse_reverse] at ng7
  obtain ⟨f9, hF⟩ : ∃ f9, m7.length = f9 := ⟨_, rfl⟩
  obtain ⟨m8, hm8⟩ : ∃ m8, m7 ++ [insC s l] = m8 := ⟨_, rfl⟩
  have x8 : Mx c m7 m8 := hm8 ▸ Mx.new x7.2.1 _
  have gf8 : m8[f9]? = some (insC s l) := by rw [← hm8, ← hF]; exact at_end _ _
  rw [hF, hm8] at ng7
  have ga8 := cell_mx x8 ga7 na
  have eq8 := L_eq (n := 18) gf8 ga8
  rw [decide_eq_true rfl] at eq8
  -- the pictures
  have hl1 := hl.1
  have hr1 := hr.1
  have o8 := p_law_outer (n := 17) (m := m8) hasQ hS l (by omega) hl.len
  obtain ⟨m9, hm9⟩ : ∃ m9, m8 ++ [Cell.lst ((rawI l (fO s)).map pD)] = m9 := ⟨_, rfl⟩
  have x9 : Mx c m8 m9 := hm9 ▸ Mx.new x8.2.1 _
  rw [hm9] at o8
  have i9 := p_law_inner (Γ := Γl) (n := 17) (m := m9) rfl rfl hS l (by omega) hl.len
  obtain ⟨m10, hm10⟩ : ∃ m10, m9 ++ [Cell.lst ((rawI l (fI s)).map pD)] = m10 := ⟨_, rfl⟩
  have x10 : Mx c m9 m10 := hm10 ▸ Mx.new x9.2.1 _
  rw [hm10] at i9
  have ga10 := cell_mx (x9.trans x10) ga8 na
  have gb10 := cell_mx (((x7.trans x8).trans x9).trans x10) gb6 nb
  have eq10 := L_eq (n := 18) ga10 gb10
  have o10 := p_law_outer (n := 17) (m := m10) hasQ hT r (by omega) hr.len
  obtain ⟨m11, hm11⟩ : ∃ m11, m10 ++ [Cell.lst ((rawI r (fO t)).map pD)] = m11 := ⟨_, rfl⟩
  have x11 : Mx c m10 m11 := hm11 ▸ Mx.new x10.2.1 _
  rw [hm11] at o10
  have i11 := p_law_inner (Γ := Γl) (n := 17) (m := m11) rfl rfl hT r (by omega) hr.len
  obtain ⟨m12, hm12⟩ : ∃ m12, m11 ++ [Cell.lst ((rawI r (fI t)).map pD)] = m12 := ⟨_, rfl⟩
  have x12 : Mx c m11 m12 := hm12 ▸ Mx.new x11.2.1 _
  rw [hm12] at i11
  have qpp : eqD (.tup [picD (outI (s, l)), picD (inI (s, l))]) (.tup [picD (outI (t, r)), picD (inI (t, r))]) = some (decide (pxI s l = pxI t r)) := eqD_pp (pxI s l) (pxI t r)
  have qC := eqD_bl (decide (pxI s l = pxI t r)) (decide (pxI s l = pxI t r))
  rw [beq_self_eq_true] at qC
  generalize decide (pxI s l = pxI t r) = BB at eq10 qpp qC
  have o12 := p_law_outer (n := 17) (m := m12) hasQ hS l (by omega) hl.len
  obtain ⟨m13, hm13⟩ : ∃ m13, m12 ++ [Cell.lst ((rawI l (fO s)).map pD)] = m13 := ⟨_, rfl⟩
  have x13 : Mx c m12 m13 := hm13 ▸ Mx.new x12.2.1 _
  rw [hm13] at o12
  have i13 := p_law_inner (Γ := Γl) (n := 17) (m := m13) rfl rfl hS l (by omega) hl.len
  obtain ⟨m14, hm14⟩ : ∃ m14, m13 ++ [Cell.lst ((rawI l (fI s)).map pD)] = m14 := ⟨_, rfl⟩
  have x14 : Mx c m13 m14 := hm14 ▸ Mx.new x13.2.1 _
  rw [hm14] at i13
  have ad14 := pics_add (m := m14) (s := s) hl
  have ga14 := cell_mx (((x11.trans x12).trans x13).trans x14) ga10 na
  obtain ⟨b12, b13, E12⟩ := rows_c hl ga14 a0 a1 (some (.ref c)) a3 (some (lD s l)) (some (lD t r)) (some (.ref b)) (some (.ref e9)) (some (.tup [picD (outI (s, l)), picD (inI (s, l))])) a12 a13 a14 a15
  -- what is no pair, what is no place
  obtain ⟨od, m15, e13, hod, x15, l15⟩ := p_choiceL (n := 17) hasS x14.2.1 odds (by decide) (by decide)
  have ga15 := cell_mx x15 ga14 na
  have od15 := L_odd (n := 17) ga15 hod
  have zis : sem2 .isn (.bl false) (.bl false) m15 = some (.bl false) := rfl
  have kd15 : kindD "Lacing" m15 (lD s l) = true := rfl
  have ki15 : kindD "Lacing" m15 (.int 5) = true := rfl
  have et15 : callN Γl 19 "Lacing.__eq__" [.ref a, lD s l] m15 = .ok (.bl false) m15 := L_eqT (n := 18)
  have ei15 : callN Γl 19 "Lacing.__eq__" [.ref a, .int 5] m15 = .ok (.bl false) m15 := L_eqI (n := 18)
  obtain ⟨pl, m16, e16, hpl, x16, l16⟩ := p_choiceL (n := 17) hasS x15.2.1 [.int (-1), .int (2 * (k : Int)), .non, .bl true] (by simp) (by simp)
  have ga16 := cell_mx x16 ga15 na
  have no16 := L_nothing (n := 16) ga16 (d := pl) (by
    simp only [List.mem_cons, List.not_mem_nil, or_false] at hpl
    rcases hpl with rfl | rfl | rfl | rfl
    · exact .inr (.inr ⟨_, rfl, by omega⟩)
    · exact .inr (.inr ⟨_, rfl, by omega⟩)
    · exact .inl rfl
    · exact .inr (.inl rfl))
  have E0 : evS Γl.con (callN Γl 19) law_b2_h0 [a0, a1, some (.ref c), a3, a4, a5, a6, a7, a8, a9, a10, a11, a12, a13, a14, a15] m = .ok (.nx [a0, a1, some (.ref c), a3, some (.int (k : Int)), a5, a6, a7, a8, a9, a10, a11, a12, a13, a14, a15]) m1 := by
    simp -implicitDefEqProofs [law_b2_h0, e1, hk0]
  have E1 : evS Γl.con (callN Γl 19) law_b2_h1 [a0, a1, some (.ref c), a3, some (.int (k : Int)), a5, a6, a7, a8, a9, a10, a11, a12, a13, a14, a15] m1 = .ok (.nx [a0, a1, some (.ref c), a3, some (.int (k : Int)), some (lD s l), some (lD t0 r0), a7, a8, a9, a10, a11, a12, a13, a14, a15]) m3 := by
    simp -implicitDefEqProofs [law_b2_h1, e2, e3]
  have E2 : evS Γl.con (callN Γl 19) law_b2_h2 [a0, a1, some (.ref c), a3, some (.int (k : Int)), some (lD s l), some (lD t0 r0), a7, a8, a9, a10, a11, a12, a13, a14, a15] m3 = .ok (.nx [a0, a1, some (.ref c), a3, some (.int (k : Int)), some (lD s l), some (lD t r), a7, a8, a9, a10, a11, a12, a13, a14, a15]) m4 := by
    rw [← hD0, ← hD1] at e4
    simp -implicitDefEqProofs [law_b2_h2, lD_0, lD_1, e4, -z_ix]
  have E3 : evS Γl.con (callN Γl 19) law_b2_h3 [a0, a1, some (.ref c), a3, some (.int (k : Int)), some (lD s l), some (lD t r), a7, a8, a9, a10, a11, a12, a13, a14, a15] m4 = .ok (.nx [a0, a1, some (.ref c), a3, some (.int (k : Int)), some (lD s l), some (lD t r), some (.ref a), some (.ref b), a9, a10, a11, a12, a13, a14, a15]) m6 := by
    simp -implicitDefEqProofs [law_b2_h3, v5, v6]
  have E4 : evS Γl.con (callN Γl 19) law_b2_h4 [a0, a1, some (.ref c), a3, some (.int (k : Int)), some (lD s l), some (lD t r), some (.ref a), some (.ref b), a9, a10, a11, a12, a13, a14, a15] m6 = .ok (.nx [a0, a1, some (.ref c), a3, some (.int (k : Int)), some (lD s l), some (lD t r), some (.ref a), some (.ref b), a9, a10, a11, a12, a13, a14, a15]) m6 := by
    simp -implicitDefEqProofs [law_b2_h4, ic_of ga6, so6, sz6, qlD, dl]
  have E5 : evS Γl.con (callN Γl 19) law_b2_h5 [a0, a1, some (.ref c), a3, some (.int (k : Int)), some (lD s l), some (lD t r), some (.ref a), some (.ref b), a9, a10, a11, a12, a13, a14, a15] m6 = .ok (.nx [a0, a1, some (.ref c), a3, some (.int (k : Int)), some (lD s l), some (lD t r), some (.ref a), some (.ref b), a9, a10, a11, a12, a13, a14, a15]) m6 := by
    simp -implicitDefEqProofs [law_b2_h5, ic_of ga6, ln6, bk6, kn6, hmul, hx6, -z_mul]
  have E6 : evS Γl.con (callN Γl 19) law_b2_h6 [a0, a1, some (.ref c), a3, some (.int (k : Int)), some (lD s l), some (lD t r), some (.ref a), some (.ref b), a9, a10, a11, a12, a13, a14, a15] m6 = .ok (.nx [a0, a1, some (.ref c), a3, some (.int (k : Int)), some (lD s l), some (lD t r), some (.ref a), some (.ref b), a9, a10, a11, a12, a13, a14, a15]) m6 := by
    generalize l.map D.int = al at gc6 lD1 qI
    generalize (List.range (2 * k)).map iD = its at gc6 hra
    simp -implicitDefEqProofs [law_b2_h6, hmul, hra, gc6, lD1, semN1, qI, ic_of ga6, bo6, backK1, ho6, qB, -z_mul, -z_ix]
  have E7 : evS Γl.con (callN Γl 19) law_b2_h7 [a0, a1, some (.ref c), a3, some (.int (k : Int)), some (lD s l), some (lD t r), some (.ref a), some (.ref b), a9, a10, a11, a12, a13, a14, a15] m6 = .ok (.nx [a0, a1, some (.ref c), a3, some (.int (k : Int)), some (lD s l), some (lD t r), some (.ref a), some (.ref b), some (.ref e9), a10, a11, a12, a13, a14, a15]) m7 := by
    simp -implicitDefEqProofs [law_b2_h7, ic_of ga6, ng6, backK1]
  have E8 : evS Γl.con (callN Γl 19) law_b2_h8 [a0, a1, some (.ref c), a3, some (.int (k : Int)), some (lD s l), some (lD t r), some (.ref a), some (.ref b), some (.ref e9), a10, a11, a12, a13, a14, a15] m7 = .ok (.nx [a0, a1, some (.ref c), a3, some (.int (k : Int)), some (lD s l), some (lD t r), some (.ref a), some (.ref b), some (.ref e9), a10, a11, a12, a13, a14, a15]) m8 := by
    simp -implicitDefEqProofs [law_b2_h8, ic_of ge7, so7, dl, lD_0, lD_1, hDr, qlR, ic_of ge7, ic_of gf8, instK2, otherK2, kindK2, kind_ins ga7, kind_ins ga8, eq7, eq8, backK1, backK2, ng7, -z_ix, -List.map_reverse]
  have E9 : evS Γl.con (callN Γl 19) law_b2_h9 [a0, a1, some (.ref c), a3, some (.int (k : Int)), some (lD s l), some (lD t r), some (.ref a), some (.ref b), some (.ref e9), a10, a11, a12, a13, a14, a15] m8 = .ok (.nx [a0, a1, some (.ref c), a3, some (.int (k : Int)), some (lD s l), some (lD t r), some (.ref a), some (.ref b), some (.ref e9), some (.tup [picD (outI (s, l)), picD (inI (s, l))]), a11, a12, a13, a14, a15]) m10 := by
    simp -implicitDefEqProofs [law_b2_h9, o8, i9]
  have E10 : evS Γl.con (callN Γl 19) law_b2_h10 [a0, a1, some (.ref c), a3, some (.int (k : Int)), some (lD s l), some (lD t r), some (.ref a), some (.ref b), some (.ref e9), some (.tup [picD (outI (s, l)), picD (inI (s, l))]), a11, a12, a13, a14, a15] m10 = .ok (.nx [a0, a1, some (.ref c), a3, some (.int (k : Int)), some (lD s l), some (lD t r), some (.ref a), some (.ref b), some (.ref e9), some (.tup [picD (outI (s, l)), picD (inI (s, l))]), a11, a12, a13, a14, a15]) m12 := by
    simp -implicitDefEqProofs [law_b2_h10, ic_of ga10, instK2, otherK2, kindK2, kind_ins gb10, eq10, backK2, o10, i11, qpp, qC]
  have E11 : evS Γl.con (callN Γl 19) law_b2_h11 [a0, a1, some (.ref c), a3, some (.int (k : Int)), some (lD s l), some (lD t r), some (.ref a), some (.ref b), some (.ref e9), some (.tup [picD (outI (s, l)), picD (inI (s, l))]), a11, a12, a13, a14, a15] m12 = .ok (.nx [a0, a1, some (.ref c), a3, some (.int (k : Int)), some (lD s l), some (lD t r), some (.ref a), some (.ref b), some (.ref e9), some (.tup [picD (outI (s, l)), picD (inI (s, l))]), some (.tup ((allP s l).map pD)), a12, a13, a14, a15]) m14 := by
    simp -implicitDefEqProofs [law_b2_h11, o12, i13, ad14]
  have E13 : evS Γl.con (callN Γl 19) law_b2_h13 [a0, a1, some (.ref c), a3, some (.int (k : Int)), some (lD s l), some (lD t r), some (.ref a), some (.ref b), some (.ref e9), some (.tup [picD (outI (s, l)), picD (inI (s, l))]), some (.tup ((allP s l).map pD)), b12, b13, a14, a15] m14 = .ok (.nx [a0, a1, some (.ref c), a3, some (.int (k : Int)), some (lD s l), some (lD t r), some (.ref a), some (.ref b), some (.ref e9), some (.tup [picD (outI (s, l)), picD (inI (s, l))]), some (.tup ((allP s l).map pD)), b12, b13, some od, a15]) m15 := by
    unfold odds at e13
    simp -implicitDefEqProofs [law_b2_h13, e13]
  have E14 : evS Γl.con (callN Γl 19) law_b2_h14 [a0, a1, some (.ref c), a3, some (.int (k : Int)), some (lD s l), some (lD t r), some (.ref a), some (.ref b), some (.ref e9), some (.tup [picD (outI (s, l)), picD (inI (s, l))]), some (.tup ((allP s l).map pD)), b12, b13, some od, a15] m15 = .ok (.nx [a0, a1, some (.ref c), a3, some (.int (k : Int)), some (lD s l), some (lD t r), some (.ref a), some (.ref b), some (.ref e9), some (.tup [picD (outI (s, l)), picD (inI (s, l))]), some (.tup ((allP s l).map pD)), b12, b13, some od, a15]) m15 := by
    simp -implicitDefEqProofs [law_b2_h14, instK2, otherK2, kindK2, ic_of ga15, od15, backK2, zis, kd15, ki15, et15, ei15]
  have E15 : evS Γl.con (callN Γl 19) law_b2_h15 [a0, a1, some (.ref c), a3, some (.int (k : Int)), some (lD s l), some (lD t r), some (.ref a), some (.ref b), some (.ref e9), some (.tup [picD (outI (s, l)), picD (inI (s, l))]), some (.tup ((allP s l).map pD)), b12, b13, some od, a15] m15 = .ok (.nx [a0, a1, some (.ref c), a3, some (.int (k : Int)), some (lD s l), some (lD t r), some (.ref a), some (.ref b), some (.ref e9), some (.tup [picD (outI (s, l)), picD (inI (s, l))]), some (.tup ((allP s l).map pD)), b12, b13, some od, a15]) m16 := by
    simp -implicitDefEqProofs [law_b2_h15, hmul, e16, no16, -z_mul]
  refine ⟨[a0, a1, some (.ref c), a3, some (.int (k : Int)), some (lD s l), some (lD t r), some (.ref a), some (.ref b), some (.ref e9), some (.tup [picD (outI (s, l)), picD (inI (s, l))]), some (.tup ((allP s l).map pD)), b12, b13, some od, a15], m16, ?_, x16.2.1, rfl, rfl, rfl⟩
  rw [law_b2_cut]
  rw [seq_nx E0]
  rw [seq_nx E1]
  rw [seq_nx E2]
  rw [seq_nx E3]
  rw [seq_nx E4]
  rw [seq_nx E5]
  rw [seq_nx E6]
  rw [seq_nx E7]
  rw [seq_nx E8]
  rw [seq_nx E9]
  rw [seq_nx E10]
  rw [seq_nx E11]
  rw [seq_nx E12]
  rw [seq_nx E13]
  rw [seq_nx E14]
  rw [seq_nx E15, y_nop]
end LR

set_option Elab.async false
set_option linter.all false
set_option maxRecDepth 100000
set_option maxHeartbeats 4000000
namespace LR
open PySem PySem.Spec PyProof.Rows L2
theorem bad1 (m : Mem) : callN Γl 15 "is_lacing" [.tup [.str "in", .tup [.int 0, .int 1, .int 2]]] m = .ok (.bl false) m := by kernel_rfl
theorem bad2 (m : Mem) : callN Γl 15 "is_lacing" [.tup [.str "up", .tup [.int 0, .int 1]]] m = .ok (.bl false) m := by kernel_rfl
theorem bad3 (m : Mem) : callN Γl 15 "is_lacing" [.tup [.str "in", .tup [.int 0, .int 2]]] m = .ok (.bl false) m := by kernel_rfl
theorem bad_init {s : Str} {l : List D} {m m2 : Mem} (h : ∀ m, callN Γl 15 "is_lacing" [.tup [.str s, .tup l]] m = .ok (.bl false) m) {d : D} : callN Γl 17 "Lacing.__init__" [d, .str s, .tup l] m = .exc ⟨"InvalidLacing", []⟩ m := by
  have e : callN Γl 16 "need_lacing" [.tup [.str s, .tup l]] m = .exc ⟨"InvalidLacing", []⟩ m := by
    rw [callN_eq (n := 15) (F := f_need_lacing_r) rfl rfl]
    simp -implicitDefEqProofs [f_need_lacing_r, a_need_lacing_r, h]
  rw [callN_eq (n := 16) (F := f_Lacing_init) rfl rfl]
  simp -implicitDefEqProofs [f_Lacing_init, a_Lacing_init, e]
theorem lam_c {b : E} {s : Sl} {m m' : Mem} (h : ev Γl.con (callN Γl 17) b s m = .exc ⟨"InvalidLacing", []⟩ m') : ev Γl.con (callN Γl 19) (.lamc "_law_refused" b (.ref 0) [("InvalidLacing", .bl true)]) s m = .ok (.bl true) m' := by
  have hl : lower (callN Γl 19) = callN Γl 17 := lower_eq rfl 17
  rw [ev, hl, h]
  rfl
theorem law_true (ns : List Int) (hn : ns.length ≤ 63) : ∃ m, callN Γl 20 "law" [.scr (ns.map .int)] [] = .ok (.bl true) m := by
  obtain ⟨j, hj, hj2⟩ := rounds ns 10 (by decide)
  have hr := semR1 (j := (j : Int)) (by omega) (by omega)
  obtain ⟨s', m', e, hl, h0⟩ := outer (Γ := Γl) (n := 18) rfl ns 16 1 2 (by decide) (by decide) (by decide) (by decide) (by decide) (.seq (.loop false [3] (.rng (.cons (.c (.int 4)) .nil)) law_b2) .nop) (fun c s m hs hl h0 h2 => by
    obtain ⟨s', m', e, q1, q2, q3, q4⟩ := turns (some (.scr (ns.map .int))) 16 2 3 (by decide) (by decide) (by decide) 4 (by decide) law_b2 (callN Γl 19) Γl.con (fun c s m => turn_c _ c s m) c s m hs hl h0 h2
    refine ⟨s', m', ?_, q2, q3⟩
    have e : evS Γl.con (callN Γl 19) (.loop false [3] (.rng (.cons (.c (.int 4)) .nil)) law_b2) s m = .ok (.nx s') m' := e
    rw [y_seq, e]
    simp) (List.range (j : Int).toNat) [some (.scr (ns.map .int)), none, none, none, none, none, none, none, none, none, none, none, none, none, none, none] [] (fun k hk => by have := List.mem_range.mp hk; omega) rfl rfl
  have mk1 : ∀ (s : Sl) (m : Mem), ev Γl.con (callN Γl 17) (.mk "Lacing" "Lacing.__init__" (.cons (.c (.str "in")) (.cons (.tup (.cons (.c (.int 0)) (.cons (.c (.int 1)) (.cons (.c (.int 2)) .nil)))) .nil))) s m = .exc ⟨"InvalidLacing", []⟩ (m ++ [.ins "Lacing" []]) := fun s m => by
    have e := bad_init (m := m ++ [.ins "Lacing" []]) (m2 := m) bad1 (d := .ref m.length)
    simp -implicitDefEqProofs [e]
  have mk2 : ∀ (s : Sl) (m : Mem), ev Γl.con (callN Γl 17) (.mk "Lacing" "Lacing.__init__" (.cons (.c (.str "up")) (.cons (.tup (.cons (.c (.int 0)) (.cons (.c (.int 1)) .nil))) .nil))) s m = .exc ⟨"InvalidLacing", []⟩ (m ++ [.ins "Lacing" []]) := fun s m => by
    have e := bad_init (m := m ++ [.ins "Lacing" []]) (m2 := m) bad2 (d := .ref m.length)
    simp -implicitDefEqProofs [e]
  have mk3 : ∀ (s : Sl) (m : Mem), ev Γl.con (callN Γl 17) (.mk "Lacing" "Lacing.__init__" (.cons (.c (.str "in")) (.cons (.tup (.cons (.c (.int 0)) (.cons (.c (.int 2)) .nil))) .nil))) s m = .exc ⟨"InvalidLacing", []⟩ (m ++ [.ins "Lacing" []]) := fun s m => by
    have e := bad_init (m := m ++ [.ins "Lacing" []]) (m2 := m) bad3 (d := .ref m.length)
    simp -implicitDefEqProofs [e]
  refine ⟨((m' ++ [.ins "Lacing" []]) ++ [.ins "Lacing" []]) ++ [.ins "Lacing" []], ?_⟩
  generalize ((List.range (j : Int).toNat).map iD) = its at hr e
  rw [callN_eq (F := f_law) rfl rfl]
  have hj' : (1 : Int) + (if (10 : Int) < (ns.length : Int) then 10 else (ns.length : Int)) = j := hj
  have l1 := fun (s : Sl) (m : Mem) => lam_c (mk1 s m)
  have l2 := fun (s : Sl) (m : Mem) => lam_c (mk2 s m)
  have l3 := fun (s : Sl) (m : Mem) => lam_c (mk3 s m)
  simp -implicitDefEqProofs [f_law, a_law, hj', hr, e, l1, l2, l3]
end LR

set_option Elab.async false
set_option linter.all false
set_option maxRecDepth 100000
set_option maxHeartbeats 4000000
namespace LR
open PySem PySem.Spec PyProof.Rows L2
def topS (i : Nat) : PySem.Stmt := PySem.Challenge.pw_lacerows_k15_lacings_as_values.main.body.getD i (.Pass ⟨0, 0, 0, 0⟩)
def topM (i j : Nat) : PySem.Stmt := match topS i with
  | .ClassDef _ _ _ body .. => body.getD j (.Pass ⟨0, 0, 0, 0⟩)
  | s => s
theorem c_is_between : chkSs Γl n_is_between 60 (L2.defScope (topS 7)) a_is_between (L2.defBody (topS 7)) = true := by decide +kernel
theorem c_is_start : chkSs Γl n_is_start 60 (L2.defScope (topS 8)) a_is_start (L2.defBody (topS 8)) = true := by decide +kernel
theorem c_is_lacing : chkSs Γl n_is_lacing 60 (L2.defScope (topS 9)) a_is_lacing (L2.defBody (topS 9)) = true := by decide +kernel
theorem c_need_lacing_r : chkSs Γl n_need_lacing_r 60 (L2.defScope (topS 10)) a_need_lacing_r (L2.defBody (topS 10)) = true := by decide +kernel
theorem c_size_of : chkSs Γl n_size_of 60 (L2.defScope (topS 11)) a_size_of (L2.defBody (topS 11)) = true := by decide +kernel
theorem c_is_across : chkSs Γl n_is_across 60 (L2.defScope (topS 12)) a_is_across (L2.defBody (topS 12)) = true := by decide +kernel
theorem c_stretches_of : chkSs Γl n_stretches_of 60 (L2.defScope (topS 13)) a_stretches_of (L2.defBody (topS 13)) = true := by decide +kernel
theorem c_loose_of : chkSs Γl n_loose_of 60 (L2.defScope (topS 14)) a_loose_of (L2.defBody (topS 14)) = true := by decide +kernel
theorem c_holding : chkSs Γl n_holding 60 (L2.defScope (topS 15)) a_holding (L2.defBody (topS 15)) = true := by decide +kernel
theorem c_kinds_of : chkSs Γl n_kinds_of 60 (L2.defScope (topS 16)) a_kinds_of (L2.defBody (topS 16)) = true := by decide +kernel
theorem c_kinds : chkSs Γl n_kinds 60 (L2.defScope (topS 17)) a_kinds (L2.defBody (topS 17)) = true := by decide +kernel
theorem c_holds : chkSs Γl n_holds 60 (L2.defScope (topS 18)) a_holds (L2.defBody (topS 18)) = true := by decide +kernel
theorem c_picture_of : chkSs Γl n_picture_of 60 (L2.defScope (topS 20)) a_picture_of (L2.defBody (topS 20)) = true := by decide +kernel
theorem c_outside_of : chkSs Γl n_outside_of 60 (L2.defScope (topS 21)) a_outside_of (L2.defBody (topS 21)) = true := by decide +kernel
theorem c_inside_of : chkSs Γl n_inside_of 60 (L2.defScope (topS 22)) a_inside_of (L2.defBody (topS 22)) = true := by decide +kernel
theorem c_Lacing_init : chkSs Γl n_Lacing_init 60 (L2.defScope (topM 24 0)) a_Lacing_init (L2.defBody (topM 24 0)) = true := by decide +kernel
theorem c_Lacing_source : chkSs Γl n_Lacing_source 60 (L2.defScope (topM 24 1)) a_Lacing_source (L2.defBody (topM 24 1)) = true := by decide +kernel
theorem c_Lacing_size : chkSs Γl n_Lacing_size 60 (L2.defScope (topM 24 2)) a_Lacing_size (L2.defBody (topM 24 2)) = true := by decide +kernel
theorem c_Lacing_contains : chkSs Γl n_Lacing_contains 60 (L2.defScope (topM 24 3)) a_Lacing_contains (L2.defBody (topM 24 3)) = true := by decide +kernel
theorem c_Lacing_len : chkSs Γl n_Lacing_len 60 (L2.defScope (topM 24 4)) a_Lacing_len (L2.defBody (topM 24 4)) = true := by decide +kernel
theorem c_Lacing_getitem : chkSs Γl n_Lacing_getitem 60 (L2.defScope (topM 24 5)) a_Lacing_getitem (L2.defBody (topM 24 5)) = true := by decide +kernel
theorem c_Lacing_neg : chkSs Γl n_Lacing_neg 60 (L2.defScope (topM 24 7)) a_Lacing_neg (L2.defBody (topM 24 7)) = true := by decide +kernel
theorem c_Lacing_bool : chkSs Γl n_Lacing_bool 60 (L2.defScope (topM 24 8)) a_Lacing_bool (L2.defBody (topM 24 8)) = true := by decide +kernel
theorem c_Lacing_eq : chkSs Γl n_Lacing_eq 60 (L2.defScope (topM 24 9)) a_Lacing_eq (L2.defBody (topM 24 9)) = true := by decide +kernel
theorem c_law_source : chkSs Γl n_law_source 60 (L2.defScope (topS 26)) a_law_source (L2.defBody (topS 26)) = true := by decide +kernel
theorem c_law_draw : chkSs Γl n_law_draw 60 (L2.defScope (topS 27)) a_law_draw (L2.defBody (topS 27)) = true := by decide +kernel
theorem c_law_choice : chkSs Γl n_law_choice 60 (L2.defScope (topS 28)) a_law_choice (L2.defBody (topS 28)) = true := by decide +kernel
theorem c_law_order : chkSs Γl n_law_order 60 (L2.defScope (topS 29)) a_law_order (L2.defBody (topS 29)) = true := by decide +kernel
theorem c_law_lacing : chkSs Γl n_law_lacing 60 (L2.defScope (topS 30)) a_law_lacing (L2.defBody (topS 30)) = true := by decide +kernel
theorem c_law_seen : chkSs Γl n_law_seen 60 (L2.defScope (topS 31)) a_law_seen (L2.defBody (topS 31)) = true := by decide +kernel
theorem c_law_outer : chkSs Γl n_law_outer 60 (L2.defScope (topS 32)) a_law_outer (L2.defBody (topS 32)) = true := by decide +kernel
theorem c_law_inner : chkSs Γl n_law_inner 60 (L2.defScope (topS 33)) a_law_inner (L2.defBody (topS 33)) = true := by decide +kernel
theorem c_law_value : chkSs Γl n_law_value 60 (L2.defScope (topS 34)) a_law_value (L2.defBody (topS 34)) = true := by decide +kernel
theorem c_law_nothing : chkSs Γl n_law_nothing 60 (L2.defScope (topS 35)) a_law_nothing (L2.defBody (topS 35)) = true := by decide +kernel
theorem c_law : chkSs Γl n_law 60 (L2.defScope (topS 37)) a_law (L2.defBody (topS 37)) = true := by decide +kernel
def n_law_refused : List PySem.Str := ["_law_call", "e"]
theorem c_law_refused : chkLmR Γl n_law_refused "_law_call" (L2.defScope (topS 36)) (.ref 0) [("InvalidLacing", .bl true)] (L2.defBody (topS 36)) = true := by decide +kernel
end LR

set_option maxHeartbeats 0
namespace LR
open PySem PySem.Spec PyProof.Rows L2
def z_Lacing_source : PrE := ⟨"Lacing", "source", "Lacing.source", L2.defArgs (topM 24 1), L2.defBody (topM 24 1), L2.defScope (topM 24 1)⟩
theorem s_Lacing_source : FnScope n_Lacing_source ["self"] (L2.defScope (topM 24 1)) := ⟨rfl, rfl, rfl, by decide +kernel, rfl, by decide +kernel, by decide +kernel⟩
def z_Lacing_size : PrE := ⟨"Lacing", "size", "Lacing.size", L2.defArgs (topM 24 2), L2.defBody (topM 24 2), L2.defScope (topM 24 2)⟩
theorem s_Lacing_size : FnScope n_Lacing_size ["self"] (L2.defScope (topM 24 2)) := ⟨rfl, rfl, rfl, by decide +kernel, rfl, by decide +kernel, by decide +kernel⟩
def zs : List PrE := [z_Lacing_source, z_Lacing_size]
def d_is_between : He.DefD := ⟨("is_between", none), "is_between", "is_between", L2.defArgs (topS 7), L2.defBody (topS 7), L2.defScope (topS 7), [], []⟩
theorem s_is_between : FnScope n_is_between ["value", "low", "high"] (L2.defScope (topS 7)) := ⟨rfl, rfl, rfl, by decide +kernel, rfl, by decide +kernel, by decide +kernel⟩
def d_is_start : He.DefD := ⟨("is_start", none), "is_start", "is_start", L2.defArgs (topS 8), L2.defBody (topS 8), L2.defScope (topS 8), [], []⟩
theorem s_is_start : FnScope n_is_start ["value"] (L2.defScope (topS 8)) := ⟨rfl, rfl, rfl, by decide +kernel, rfl, by decide +kernel, by decide +kernel⟩
def d_is_lacing : He.DefD := ⟨("is_lacing", none), "is_lacing", "is_lacing", L2.defArgs (topS 9), L2.defBody (topS 9), L2.defScope (topS 9), [], []⟩
theorem s_is_lacing : FnScope n_is_lacing ["value"] (L2.defScope (topS 9)) := ⟨rfl, rfl, rfl, by decide +kernel, rfl, by decide +kernel, by decide +kernel⟩
def d_need_lacing_r : He.DefD := ⟨("need_lacing", none), "need_lacing", "need_lacing", L2.defArgs (topS 10), L2.defBody (topS 10), L2.defScope (topS 10), [], []⟩
theorem s_need_lacing_r : FnScope n_need_lacing_r ["lacing"] (L2.defScope (topS 10)) := ⟨rfl, rfl, rfl, by decide +kernel, rfl, by decide +kernel, by decide +kernel⟩
def d_size_of : He.DefD := ⟨("size_of", none), "size_of", "size_of", L2.defArgs (topS 11), L2.defBody (topS 11), L2.defScope (topS 11), [], []⟩
theorem s_size_of : FnScope n_size_of ["lacing"] (L2.defScope (topS 11)) := ⟨rfl, rfl, rfl, by decide +kernel, rfl, by decide +kernel, by decide +kernel⟩
def d_is_across : He.DefD := ⟨("is_across", none), "is_across", "is_across", L2.defArgs (topS 12), L2.defBody (topS 12), L2.defScope (topS 12), [], []⟩
theorem s_is_across : FnScope n_is_across ["one", "other"] (L2.defScope (topS 12)) := ⟨rfl, rfl, rfl, by decide +kernel, rfl, by decide +kernel, by decide +kernel⟩
def d_stretches_of : He.DefD := ⟨("stretches_of", none), "stretches_of", "stretches_of", L2.defArgs (topS 13), L2.defBody (topS 13), L2.defScope (topS 13), [], []⟩
theorem s_stretches_of : FnScope n_stretches_of ["holes"] (L2.defScope (topS 13)) := ⟨rfl, rfl, rfl, by decide +kernel, rfl, by decide +kernel, by decide +kernel⟩
def d_loose_of : He.DefD := ⟨("loose_of", none), "loose_of", "loose_of", L2.defArgs (topS 14), L2.defBody (topS 14), L2.defScope (topS 14), [], []⟩
theorem s_loose_of : FnScope n_loose_of ["holes"] (L2.defScope (topS 14)) := ⟨rfl, rfl, rfl, by decide +kernel, rfl, by decide +kernel, by decide +kernel⟩
def d_holding : He.DefD := ⟨("holding", none), "holding", "holding", L2.defArgs (topS 15), L2.defBody (topS 15), L2.defScope (topS 15), [], []⟩
theorem s_holding : FnScope n_holding ["holes"] (L2.defScope (topS 15)) := ⟨rfl, rfl, rfl, by decide +kernel, rfl, by decide +kernel, by decide +kernel⟩
def d_kinds_of : He.DefD := ⟨("kinds_of", none), "kinds_of", "kinds_of", L2.defArgs (topS 16), L2.defBody (topS 16), L2.defScope (topS 16), [], []⟩
theorem s_kinds_of : FnScope n_kinds_of ["holes"] (L2.defScope (topS 16)) := ⟨rfl, rfl, rfl, by decide +kernel, rfl, by decide +kernel, by decide +kernel⟩
def d_kinds : He.DefD := ⟨("kinds", none), "kinds", "kinds", L2.defArgs (topS 17), L2.defBody (topS 17), L2.defScope (topS 17), [], []⟩
theorem s_kinds : FnScope n_kinds ["lacing"] (L2.defScope (topS 17)) := ⟨rfl, rfl, rfl, by decide +kernel, rfl, by decide +kernel, by decide +kernel⟩
def d_holds : He.DefD := ⟨("holds", none), "holds", "holds", L2.defArgs (topS 18), L2.defBody (topS 18), L2.defScope (topS 18), [], []⟩
theorem s_holds : FnScope n_holds ["lacing"] (L2.defScope (topS 18)) := ⟨rfl, rfl, rfl, by decide +kernel, rfl, by decide +kernel, by decide +kernel⟩
def d_picture_of : He.DefD := ⟨("picture_of", none), "picture_of", "picture_of", L2.defArgs (topS 20), L2.defBody (topS 20), L2.defScope (topS 20), [], []⟩
theorem s_picture_of : FnScope n_picture_of ["holes", "first"] (L2.defScope (topS 20)) := ⟨rfl, rfl, rfl, by decide +kernel, rfl, by decide +kernel, by decide +kernel⟩
def d_outside_of : He.DefD := ⟨("outside_of", none), "outside_of", "outside_of", L2.defArgs (topS 21), L2.defBody (topS 21), L2.defScope (topS 21), [], []⟩
theorem s_outside_of : FnScope n_outside_of ["lacing"] (L2.defScope (topS 21)) := ⟨rfl, rfl, rfl, by decide +kernel, rfl, by decide +kernel, by decide +kernel⟩
def d_inside_of : He.DefD := ⟨("inside_of", none), "inside_of", "inside_of", L2.defArgs (topS 22), L2.defBody (topS 22), L2.defScope (topS 22), [], []⟩
theorem s_inside_of : FnScope n_inside_of ["lacing"] (L2.defScope (topS 22)) := ⟨rfl, rfl, rfl, by decide +kernel, rfl, by decide +kernel, by decide +kernel⟩
def d_Lacing_init : He.DefD := ⟨("Lacing", some "__init__"), "__init__", "Lacing.__init__", L2.defArgs (topM 24 0), L2.defBody (topM 24 0), L2.defScope (topM 24 0), [], []⟩
theorem s_Lacing_init : FnScope n_Lacing_init ["self", "start", "holes"] (L2.defScope (topM 24 0)) := ⟨rfl, rfl, rfl, by decide +kernel, rfl, by decide +kernel, by decide +kernel⟩
def d_Lacing_contains : He.DefD := ⟨("Lacing", some "__contains__"), "__contains__", "Lacing.__contains__", L2.defArgs (topM 24 3), L2.defBody (topM 24 3), L2.defScope (topM 24 3), [], []⟩
theorem s_Lacing_contains : FnScope n_Lacing_contains ["self", "value"] (L2.defScope (topM 24 3)) := ⟨rfl, rfl, rfl, by decide +kernel, rfl, by decide +kernel, by decide +kernel⟩
def d_Lacing_len : He.DefD := ⟨("Lacing", some "__len__"), "__len__", "Lacing.__len__", L2.defArgs (topM 24 4), L2.defBody (topM 24 4), L2.defScope (topM 24 4), [], []⟩
theorem s_Lacing_len : FnScope n_Lacing_len ["self"] (L2.defScope (topM 24 4)) := ⟨rfl, rfl, rfl, by decide +kernel, rfl, by decide +kernel, by decide +kernel⟩
def d_Lacing_getitem : He.DefD := ⟨("Lacing", some "__getitem__"), "__getitem__", "Lacing.__getitem__", L2.defArgs (topM 24 5), L2.defBody (topM 24 5), L2.defScope (topM 24 5), [], []⟩
theorem s_Lacing_getitem : FnScope n_Lacing_getitem ["self", "place"] (L2.defScope (topM 24 5)) := ⟨rfl, rfl, rfl, by decide +kernel, rfl, by decide +kernel, by decide +kernel⟩
def d_Lacing_neg : He.DefD := ⟨("Lacing", some "__neg__"), "__neg__", "Lacing.__neg__", L2.defArgs (topM 24 7), L2.defBody (topM 24 7), L2.defScope (topM 24 7), [], []⟩
theorem s_Lacing_neg : FnScope n_Lacing_neg ["self"] (L2.defScope (topM 24 7)) := ⟨rfl, rfl, rfl, by decide +kernel, rfl, by decide +kernel, by decide +kernel⟩
def d_Lacing_bool : He.DefD := ⟨("Lacing", some "__bool__"), "__bool__", "Lacing.__bool__", L2.defArgs (topM 24 8), L2.defBody (topM 24 8), L2.defScope (topM 24 8), [], []⟩
theorem s_Lacing_bool : FnScope n_Lacing_bool ["self"] (L2.defScope (topM 24 8)) := ⟨rfl, rfl, rfl, by decide +kernel, rfl, by decide +kernel, by decide +kernel⟩
def d_Lacing_eq : He.DefD := ⟨("Lacing", some "__eq__"), "__eq__", "Lacing.__eq__", L2.defArgs (topM 24 9), L2.defBody (topM 24 9), L2.defScope (topM 24 9), [], []⟩
theorem s_Lacing_eq : FnScope n_Lacing_eq ["self", "other"] (L2.defScope (topM 24 9)) := ⟨rfl, rfl, rfl, by decide +kernel, rfl, by decide +kernel, by decide +kernel⟩
def d_law_source : He.DefD := ⟨("_law_source", none), "_law_source", "_law_source", L2.defArgs (topS 26), L2.defBody (topS 26), L2.defScope (topS 26), [], []⟩
theorem s_law_source : FnScope n_law_source ["_law_script", "_law_index"] (L2.defScope (topS 26)) := ⟨rfl, rfl, rfl, by decide +kernel, rfl, by decide +kernel, by decide +kernel⟩
def d_law_draw : He.DefD := ⟨("_law_draw", none), "_law_draw", "_law_draw", L2.defArgs (topS 27), L2.defBody (topS 27), L2.defScope (topS 27), [], []⟩
theorem s_law_draw : FnScope n_law_draw ["_law_source_here", "_law_size"] (L2.defScope (topS 27)) := ⟨rfl, rfl, rfl, by decide +kernel, rfl, by decide +kernel, by decide +kernel⟩
def d_law_choice : He.DefD := ⟨("_law_choice", none), "_law_choice", "_law_choice", L2.defArgs (topS 28), L2.defBody (topS 28), L2.defScope (topS 28), [], []⟩
theorem s_law_choice : FnScope n_law_choice ["_law_source_here", "_law_items"] (L2.defScope (topS 28)) := ⟨rfl, rfl, rfl, by decide +kernel, rfl, by decide +kernel, by decide +kernel⟩
def d_law_order : He.DefD := ⟨("_law_order", none), "_law_order", "_law_order", L2.defArgs (topS 29), L2.defBody (topS 29), L2.defScope (topS 29), [], []⟩
theorem s_law_order : FnScope n_law_order ["_law_source_here", "_law_many"] (L2.defScope (topS 29)) := ⟨rfl, rfl, rfl, by decide +kernel, rfl, by decide +kernel, by decide +kernel⟩
def d_law_lacing : He.DefD := ⟨("_law_lacing", none), "_law_lacing", "_law_lacing", L2.defArgs (topS 30), L2.defBody (topS 30), L2.defScope (topS 30), [], []⟩
theorem s_law_lacing : FnScope n_law_lacing ["_law_source_here", "_law_size"] (L2.defScope (topS 30)) := ⟨rfl, rfl, rfl, by decide +kernel, rfl, by decide +kernel, by decide +kernel⟩
def d_law_seen : He.DefD := ⟨("_law_seen", none), "_law_seen", "_law_seen", L2.defArgs (topS 31), L2.defBody (topS 31), L2.defScope (topS 31), [], []⟩
theorem s_law_seen : FnScope n_law_seen ["_law_holes", "_law_first"] (L2.defScope (topS 31)) := ⟨rfl, rfl, rfl, by decide +kernel, rfl, by decide +kernel, by decide +kernel⟩
def d_law_outer : He.DefD := ⟨("_law_outer", none), "_law_outer", "_law_outer", L2.defArgs (topS 32), L2.defBody (topS 32), L2.defScope (topS 32), [], []⟩
theorem s_law_outer : FnScope n_law_outer ["_law_lacing_here"] (L2.defScope (topS 32)) := ⟨rfl, rfl, rfl, by decide +kernel, rfl, by decide +kernel, by decide +kernel⟩
def d_law_inner : He.DefD := ⟨("_law_inner", none), "_law_inner", "_law_inner", L2.defArgs (topS 33), L2.defBody (topS 33), L2.defScope (topS 33), [], []⟩
theorem s_law_inner : FnScope n_law_inner ["_law_lacing_here"] (L2.defScope (topS 33)) := ⟨rfl, rfl, rfl, by decide +kernel, rfl, by decide +kernel, by decide +kernel⟩
def d_law_value : He.DefD := ⟨("_law_value", none), "_law_value", "_law_value", L2.defArgs (topS 34), L2.defBody (topS 34), L2.defScope (topS 34), [], []⟩
theorem s_law_value : FnScope n_law_value ["_law_lacing_here"] (L2.defScope (topS 34)) := ⟨rfl, rfl, rfl, by decide +kernel, rfl, by decide +kernel, by decide +kernel⟩
def d_law_nothing : He.DefD := ⟨("_law_nothing", none), "_law_nothing", "_law_nothing", L2.defArgs (topS 35), L2.defBody (topS 35), L2.defScope (topS 35), [], []⟩
theorem s_law_nothing : FnScope n_law_nothing ["_law_one", "_law_place"] (L2.defScope (topS 35)) := ⟨rfl, rfl, rfl, by decide +kernel, rfl, by decide +kernel, by decide +kernel⟩
def d_law : He.DefD := ⟨("law", none), "law", "law", L2.defArgs (topS 37), L2.defBody (topS 37), L2.defScope (topS 37), [], []⟩
theorem s_law : FnScope n_law ["_law_script"] (L2.defScope (topS 37)) := ⟨rfl, rfl, rfl, by decide +kernel, rfl, by decide +kernel, by decide +kernel⟩
def d_law_refused : He.DefD := ⟨("_law_refused", none), "_law_refused", "_law_refused", L2.defArgs (topS 36), L2.defBody (topS 36), L2.defScope (topS 36), [], []⟩
theorem s_law_refused : FnScope n_law_refused ["_law_call"] (L2.defScope (topS 36)) := ⟨rfl, rfl, rfl, by decide +kernel, rfl, by decide +kernel, by decide +kernel⟩
def fn : List He.DefD := ([d_is_between, d_is_start, d_is_lacing, d_need_lacing_r, d_size_of, d_is_across, d_stretches_of, d_loose_of, d_holding, d_kinds_of, d_kinds, d_holds, d_picture_of, d_outside_of, d_inside_of, d_Lacing_init, d_Lacing_contains, d_Lacing_len, d_Lacing_getitem, d_Lacing_neg] : List He.DefD) ++ ([d_Lacing_bool, d_Lacing_eq, d_law_source, d_law_draw, d_law_choice, d_law_order, d_law_lacing, d_law_seen, d_law_outer, d_law_inner, d_law_value, d_law_nothing, d_law, d_law_refused] : List He.DefD)
def fa : List He.Fa := ([.glo "is_between", .glo "is_start", .glo "is_lacing", .glo "need_lacing", .glo "size_of", .glo "is_across", .glo "stretches_of", .glo "loose_of", .glo "holding", .glo "kinds_of", .glo "kinds", .glo "holds", .glo "picture_of", .glo "outside_of", .glo "inside_of", .glo "_law_source", .glo "_law_draw", .glo "_law_choice", .glo "_law_order", .glo "_law_lacing"] : List He.Fa) ++ ([.glo "_law_seen", .glo "_law_outer", .glo "_law_inner", .glo "_law_value", .glo "_law_nothing", .glo "law", .glo "_law_refused", .glo "Lacing", .cls "Lacing", .mkr "Lacing", .noat "Lacing" "pair", .noat "Lacing" "pictures", .meth "Lacing" "__init__", .meth "Lacing" "__contains__", .meth "Lacing" "__len__", .meth "Lacing" "__getitem__", .meth "Lacing" "__neg__", .meth "Lacing" "__bool__", .meth "Lacing" "__eq__", .free "len"] : List He.Fa) ++ ([.free "abs", .free "int", .free "bool", .free "min", .free "max", .free "sum", .free "all", .free "any", .free "tuple", .free "list", .free "sorted", .free "range", .free "zip", .free "enumerate", .free "isinstance", .free "set", .free "str", .free "ValueError"] : List He.Fa)
abbrev Rw : PySem.W.OpenRow := PySem.W.OpenLaw.row PySem.Challenge.rw_lacerows_k15_lacings_as_values
abbrev hk : PySem.W.Hook := hookO 7 fa fn co ex [d_law.at_] zs opc
def ob (s : PySem.W.SharedT) : AlO := obsOG 7 fa fn co ex [d_law.at_] zs opc (HandSHeadRun.getT s)
theorem ob_eq (s : PySem.W.SharedT) : ob s = hk.obs s.abs := obsOG_eq (HandSHeadRun.getT_eq s)
def loose : List PySem.Str := (["LaceError", "InvalidLacing", "InvalidPlace", "MOST_ROWS", "STARTS", "is_between", "is_start", "is_lacing", "need_lacing", "size_of", "is_across", "stretches_of", "loose_of", "holding", "kinds_of", "kinds", "holds", "picture_of", "outside_of", "inside_of"] : List PySem.Str) ++ (["Lacing", "_law_source", "_law_draw", "_law_choice", "_law_order", "_law_lacing", "_law_seen", "_law_outer", "_law_inner", "_law_value", "_law_nothing", "_law_refused"] : List PySem.Str)
theorem run (w : World) : HandSHeadRun.RunEq Rw (PySem.W.view Rw.prog [37]) hk ob 8000 loose w := by
  intro os
  kernel_rfl
theorem facts {P : Program} {w : World} {K : PySem.W.Frag} {base h : Heap} {mg : Str → Option Value} (X : K.In h) (G : h.Ns mainGlobals mg) (c : SaysO fa fn co ex [d_law.at_] zs opc h K) : Facts ⟨P, w, K, mg, base, (fun x => He.ga K x), false, [((He.cT K d_law.at_).2, ("law" : PySem.Str) ++ ".<locals>." ++ "<lambda>")]⟩ Γl := by
  have cd := c.t.l.saysD
  have hexc : ∀ y l, (y, l) ∈ Γl.exc → ∃ A, XcF K mg y l A := fun y l hy => xcOk_ok X G (p := (y, l)) (c.t.l.exc hy)
  have hxsi : ∀ y f l, (y, f, l) ∈ Γl.xsi → ∃ A D, XcH K mg y l A ∧ SupF P K mg A f D ∧ Binds K D.fd [D.n0, D.n1] [] := fun y f l h => by
    cases (show (y, f, l) ∈ ([] : List (PySem.Str × PySem.Str × List (PySem.Str × Bool))) from h)
  refine ⟨fun f F hkb hF => ?_, fun cn m key F hm hF => ?_, fun cn x hx => ?_, fun x d hd => conOk_ok X G (c.t.l.con (tab_mem hd)), fun x l hl => conOk_tp X G (c.t.l.con (tab_mem hl)), fun x hx => ?_, hexc, hxsi, fun g okv tb hm => ?_, fun cn x key F hm hF => ?_, fun cn key F hm hF hk => ?_, fun cn hc => ?_⟩
  · have hm : (f, F) ∈ fs := tab_mem hF
    simp only [fs, List.cons_append, List.nil_append, List.mem_cons, List.not_mem_nil, or_false, Prod.mk.injEq] at hm
    rcases hm with ⟨rfl, rfl⟩ | ⟨rfl, rfl⟩ | ⟨rfl, rfl⟩ | ⟨rfl, rfl⟩ | ⟨rfl, rfl⟩ | ⟨rfl, rfl⟩ | ⟨rfl, rfl⟩ | ⟨rfl, rfl⟩ | ⟨rfl, rfl⟩ | ⟨rfl, rfl⟩ | ⟨rfl, rfl⟩ | ⟨rfl, rfl⟩ | ⟨rfl, rfl⟩ | ⟨rfl, rfl⟩ | ⟨rfl, rfl⟩ | ⟨rfl, rfl⟩ | ⟨rfl, rfl⟩ | ⟨rfl, rfl⟩ | ⟨rfl, rfl⟩ | ⟨rfl, rfl⟩ | ⟨rfl, rfl⟩ | ⟨rfl, rfl⟩ | ⟨rfl, rfl⟩ | ⟨rfl, rfl⟩ | ⟨rfl, rfl⟩ | ⟨rfl, rfl⟩ | ⟨rfl, rfl⟩ | ⟨rfl, rfl⟩ | ⟨rfl, rfl⟩ | ⟨rfl, rfl⟩ | ⟨rfl, rfl⟩ | ⟨rfl, rfl⟩ | ⟨rfl, rfl⟩ | ⟨rfl, rfl⟩ | ⟨rfl, rfl⟩
    · obtain ⟨fd, U⟩ := cd.def_ 0 (d := d_is_between) rfl
      exact ⟨_, fd, ["value", "low", "high"], n_is_between, _, _, _, _, 60, He.glo_ok X G (cd.fact 0 (f := .glo "is_between") rfl), U, U.bindsN (fun _ _ _ _ _ _ us hl => match us, hl with | [_, _, _], _ => rfl), s_is_between, rfl, rfl, c_is_between, by decide +kernel⟩
    · obtain ⟨fd, U⟩ := cd.def_ 1 (d := d_is_start) rfl
      exact ⟨_, fd, ["value"], n_is_start, _, _, _, _, 60, He.glo_ok X G (cd.fact 1 (f := .glo "is_start") rfl), U, U.bindsN (fun _ _ _ _ _ _ us hl => match us, hl with | [_], _ => rfl), s_is_start, rfl, rfl, c_is_start, by decide +kernel⟩
    · obtain ⟨fd, U⟩ := cd.def_ 2 (d := d_is_lacing) rfl
      exact ⟨_, fd, ["value"], n_is_lacing, _, _, _, _, 60, He.glo_ok X G (cd.fact 2 (f := .glo "is_lacing") rfl), U, U.bindsN (fun _ _ _ _ _ _ us hl => match us, hl with | [_], _ => rfl), s_is_lacing, rfl, rfl, c_is_lacing, by decide +kernel⟩
    · obtain ⟨fd, U⟩ := cd.def_ 3 (d := d_need_lacing_r) rfl
      exact ⟨_, fd, ["lacing"], n_need_lacing_r, _, _, _, _, 60, He.glo_ok X G (cd.fact 3 (f := .glo "need_lacing") rfl), U, U.bindsN (fun _ _ _ _ _ _ us hl => match us, hl with | [_], _ => rfl), s_need_lacing_r, rfl, rfl, c_need_lacing_r, by decide +kernel⟩
    · obtain ⟨fd, U⟩ := cd.def_ 4 (d := d_size_of) rfl
      exact ⟨_, fd, ["lacing"], n_size_of, _, _, _, _, 60, He.glo_ok X G (cd.fact 4 (f := .glo "size_of") rfl), U, U.bindsN (fun _ _ _ _ _ _ us hl => match us, hl with | [_], _ => rfl), s_size_of, rfl, rfl, c_size_of, by decide +kernel⟩
    · obtain ⟨fd, U⟩ := cd.def_ 5 (d := d_is_across) rfl
      exact ⟨_, fd, ["one", "other"], n_is_across, _, _, _, _, 60, He.glo_ok X G (cd.fact 5 (f := .glo "is_across") rfl), U, U.bindsN (fun _ _ _ _ _ _ us hl => match us, hl with | [_, _], _ => rfl), s_is_across, rfl, rfl, c_is_across, by decide +kernel⟩
    · obtain ⟨fd, U⟩ := cd.def_ 6 (d := d_stretches_of) rfl
      exact ⟨_, fd, ["holes"], n_stretches_of, _, _, _, _, 60, He.glo_ok X G (cd.fact 6 (f := .glo "stretches_of") rfl), U, U.bindsN (fun _ _ _ _ _ _ us hl => match us, hl with | [_], _ => rfl), s_stretches_of, rfl, rfl, c_stretches_of, by decide +kernel⟩
    · obtain ⟨fd, U⟩ := cd.def_ 7 (d := d_loose_of) rfl
      exact ⟨_, fd, ["holes"], n_loose_of, _, _, _, _, 60, He.glo_ok X G (cd.fact 7 (f := .glo "loose_of") rfl), U, U.bindsN (fun _ _ _ _ _ _ us hl => match us, hl with | [_], _ => rfl), s_loose_of, rfl, rfl, c_loose_of, by decide +kernel⟩
    · obtain ⟨fd, U⟩ := cd.def_ 8 (d := d_holding) rfl
      exact ⟨_, fd, ["holes"], n_holding, _, _, _, _, 60, He.glo_ok X G (cd.fact 8 (f := .glo "holding") rfl), U, U.bindsN (fun _ _ _ _ _ _ us hl => match us, hl with | [_], _ => rfl), s_holding, rfl, rfl, c_holding, by decide +kernel⟩
    · obtain ⟨fd, U⟩ := cd.def_ 9 (d := d_kinds_of) rfl
      exact ⟨_, fd, ["holes"], n_kinds_of, _, _, _, _, 60, He.glo_ok X G (cd.fact 9 (f := .glo "kinds_of") rfl), U, U.bindsN (fun _ _ _ _ _ _ us hl => match us, hl with | [_], _ => rfl), s_kinds_of, rfl, rfl, c_kinds_of, by decide +kernel⟩
    · obtain ⟨fd, U⟩ := cd.def_ 10 (d := d_kinds) rfl
      exact ⟨_, fd, ["lacing"], n_kinds, _, _, _, _, 60, He.glo_ok X G (cd.fact 10 (f := .glo "kinds") rfl), U, U.bindsN (fun _ _ _ _ _ _ us hl => match us, hl with | [_], _ => rfl), s_kinds, rfl, rfl, c_kinds, by decide +kernel⟩
    · obtain ⟨fd, U⟩ := cd.def_ 11 (d := d_holds) rfl
      exact ⟨_, fd, ["lacing"], n_holds, _, _, _, _, 60, He.glo_ok X G (cd.fact 11 (f := .glo "holds") rfl), U, U.bindsN (fun _ _ _ _ _ _ us hl => match us, hl with | [_], _ => rfl), s_holds, rfl, rfl, c_holds, by decide +kernel⟩
    · obtain ⟨fd, U⟩ := cd.def_ 12 (d := d_picture_of) rfl
      exact ⟨_, fd, ["holes", "first"], n_picture_of, _, _, _, _, 60, He.glo_ok X G (cd.fact 12 (f := .glo "picture_of") rfl), U, U.bindsN (fun _ _ _ _ _ _ us hl => match us, hl with | [_, _], _ => rfl), s_picture_of, rfl, rfl, c_picture_of, by decide +kernel⟩
    · obtain ⟨fd, U⟩ := cd.def_ 13 (d := d_outside_of) rfl
      exact ⟨_, fd, ["lacing"], n_outside_of, _, _, _, _, 60, He.glo_ok X G (cd.fact 13 (f := .glo "outside_of") rfl), U, U.bindsN (fun _ _ _ _ _ _ us hl => match us, hl with | [_], _ => rfl), s_outside_of, rfl, rfl, c_outside_of, by decide +kernel⟩
    · obtain ⟨fd, U⟩ := cd.def_ 14 (d := d_inside_of) rfl
      exact ⟨_, fd, ["lacing"], n_inside_of, _, _, _, _, 60, He.glo_ok X G (cd.fact 14 (f := .glo "inside_of") rfl), U, U.bindsN (fun _ _ _ _ _ _ us hl => match us, hl with | [_], _ => rfl), s_inside_of, rfl, rfl, c_inside_of, by decide +kernel⟩
    · exact Bool.noConfusion (hkb.symm.trans (by decide +kernel : keyB Γl "Lacing.__init__" = true))
    · exact Bool.noConfusion (hkb.symm.trans (by decide +kernel : keyB Γl "Lacing.source" = true))
    · exact Bool.noConfusion (hkb.symm.trans (by decide +kernel : keyB Γl "Lacing.size" = true))
    · exact Bool.noConfusion (hkb.symm.trans (by decide +kernel : keyB Γl "Lacing.__contains__" = true))
    · exact Bool.noConfusion (hkb.symm.trans (by decide +kernel : keyB Γl "Lacing.__len__" = true))
    · exact Bool.noConfusion (hkb.symm.trans (by decide +kernel : keyB Γl "Lacing.__getitem__" = true))
    · exact Bool.noConfusion (hkb.symm.trans (by decide +kernel : keyB Γl "Lacing.__neg__" = true))
    · exact Bool.noConfusion (hkb.symm.trans (by decide +kernel : keyB Γl "Lacing.__bool__" = true))
    · exact Bool.noConfusion (hkb.symm.trans (by decide +kernel : keyB Γl "Lacing.__eq__" = true))
    · obtain ⟨fd, U⟩ := cd.def_ 22 (d := d_law_source) rfl
      exact ⟨_, fd, ["_law_script", "_law_index"], n_law_source, _, _, _, _, 60, He.glo_ok X G (cd.fact 15 (f := .glo "_law_source") rfl), U, U.bindsN (fun _ _ _ _ _ _ us hl => match us, hl with | [_, _], _ => rfl), s_law_source, rfl, rfl, c_law_source, by decide +kernel⟩
    · obtain ⟨fd, U⟩ := cd.def_ 23 (d := d_law_draw) rfl
      exact ⟨_, fd, ["_law_source_here", "_law_size"], n_law_draw, _, _, _, _, 60, He.glo_ok X G (cd.fact 16 (f := .glo "_law_draw") rfl), U, U.bindsN (fun _ _ _ _ _ _ us hl => match us, hl with | [_, _], _ => rfl), s_law_draw, rfl, rfl, c_law_draw, by decide +kernel⟩
    · obtain ⟨fd, U⟩ := cd.def_ 24 (d := d_law_choice) rfl
      exact ⟨_, fd, ["_law_source_here", "_law_items"], n_law_choice, _, _, _, _, 60, He.glo_ok X G (cd.fact 17 (f := .glo "_law_choice") rfl), U, U.bindsN (fun _ _ _ _ _ _ us hl => match us, hl with | [_, _], _ => rfl), s_law_choice, rfl, rfl, c_law_choice, by decide +kernel⟩
    · obtain ⟨fd, U⟩ := cd.def_ 25 (d := d_law_order) rfl
      exact ⟨_, fd, ["_law_source_here", "_law_many"], n_law_order, _, _, _, _, 60, He.glo_ok X G (cd.fact 18 (f := .glo "_law_order") rfl), U, U.bindsN (fun _ _ _ _ _ _ us hl => match us, hl with | [_, _], _ => rfl), s_law_order, rfl, rfl, c_law_order, by decide +kernel⟩
    · obtain ⟨fd, U⟩ := cd.def_ 26 (d := d_law_lacing) rfl
      exact ⟨_, fd, ["_law_source_here", "_law_size"], n_law_lacing, _, _, _, _, 60, He.glo_ok X G (cd.fact 19 (f := .glo "_law_lacing") rfl), U, U.bindsN (fun _ _ _ _ _ _ us hl => match us, hl with | [_, _], _ => rfl), s_law_lacing, rfl, rfl, c_law_lacing, by decide +kernel⟩
    · obtain ⟨fd, U⟩ := cd.def_ 27 (d := d_law_seen) rfl
      exact ⟨_, fd, ["_law_holes", "_law_first"], n_law_seen, _, _, _, _, 60, He.glo_ok X G (cd.fact 20 (f := .glo "_law_seen") rfl), U, U.bindsN (fun _ _ _ _ _ _ us hl => match us, hl with | [_, _], _ => rfl), s_law_seen, rfl, rfl, c_law_seen, by decide +kernel⟩
    · obtain ⟨fd, U⟩ := cd.def_ 28 (d := d_law_outer) rfl
      exact ⟨_, fd, ["_law_lacing_here"], n_law_outer, _, _, _, _, 60, He.glo_ok X G (cd.fact 21 (f := .glo "_law_outer") rfl), U, U.bindsN (fun _ _ _ _ _ _ us hl => match us, hl with | [_], _ => rfl), s_law_outer, rfl, rfl, c_law_outer, by decide +kernel⟩
    · obtain ⟨fd, U⟩ := cd.def_ 29 (d := d_law_inner) rfl
      exact ⟨_, fd, ["_law_lacing_here"], n_law_inner, _, _, _, _, 60, He.glo_ok X G (cd.fact 22 (f := .glo "_law_inner") rfl), U, U.bindsN (fun _ _ _ _ _ _ us hl => match us, hl with | [_], _ => rfl), s_law_inner, rfl, rfl, c_law_inner, by decide +kernel⟩
    · obtain ⟨fd, U⟩ := cd.def_ 30 (d := d_law_value) rfl
      exact ⟨_, fd, ["_law_lacing_here"], n_law_value, _, _, _, _, 60, He.glo_ok X G (cd.fact 23 (f := .glo "_law_value") rfl), U, U.bindsN (fun _ _ _ _ _ _ us hl => match us, hl with | [_], _ => rfl), s_law_value, rfl, rfl, c_law_value, by decide +kernel⟩
    · obtain ⟨fd, U⟩ := cd.def_ 31 (d := d_law_nothing) rfl
      exact ⟨_, fd, ["_law_one", "_law_place"], n_law_nothing, _, _, _, _, 60, He.glo_ok X G (cd.fact 24 (f := .glo "_law_nothing") rfl), U, U.bindsN (fun _ _ _ _ _ _ us hl => match us, hl with | [_, _], _ => rfl), s_law_nothing, rfl, rfl, c_law_nothing, by decide +kernel⟩
    · exact Bool.noConfusion (hkb.symm.trans (by decide +kernel : keyB Γl "law" = true))
  · have hm : (cn, m, key) ∈ mth := hm
    simp only [mth, List.mem_cons, List.not_mem_nil, or_false, Prod.mk.injEq] at hm
    rcases hm with ⟨rfl, rfl, rfl⟩ | ⟨rfl, rfl, rfl⟩ | ⟨rfl, rfl, rfl⟩ | ⟨rfl, rfl, rfl⟩ | ⟨rfl, rfl, rfl⟩ | ⟨rfl, rfl, rfl⟩
    · cases (show some f_Lacing_contains = some F from (show Γl.fn "Lacing.__contains__" = some f_Lacing_contains from rfl).symm.trans hF)
      obtain ⟨fd, U⟩ := cd.def_ 16 (d := d_Lacing_contains) rfl
      exact ⟨⟨_, fd, ["self", "value"], n_Lacing_contains, _, _, _, _, _, 60, He.cls_ok (cd.fact 28 (f := .cls "Lacing") rfl), He.meth_ok (cd.fact 33 (f := .meth "Lacing" "__contains__") rfl), (fun e => absurd e (by decide +kernel)), U, U.bindsN (fun _ _ _ _ _ _ us hl => match us, hl with | [_, _], _ => rfl), s_Lacing_contains, rfl, rfl, c_Lacing_contains, by decide +kernel⟩, fun _ e => absurd e (by decide +kernel)⟩
    · cases (show some f_Lacing_len = some F from (show Γl.fn "Lacing.__len__" = some f_Lacing_len from rfl).symm.trans hF)
      obtain ⟨fd, U⟩ := cd.def_ 17 (d := d_Lacing_len) rfl
      exact ⟨⟨_, fd, ["self"], n_Lacing_len, _, _, _, _, _, 60, He.cls_ok (cd.fact 28 (f := .cls "Lacing") rfl), He.meth_ok (cd.fact 34 (f := .meth "Lacing" "__len__") rfl), (fun e => absurd e (by decide +kernel)), U, U.bindsN (fun _ _ _ _ _ _ us hl => match us, hl with | [_], _ => rfl), s_Lacing_len, rfl, rfl, c_Lacing_len, by decide +kernel⟩, fun _ e => absurd e (by decide +kernel)⟩
    · cases (show some f_Lacing_getitem = some F from (show Γl.fn "Lacing.__getitem__" = some f_Lacing_getitem from rfl).symm.trans hF)
      obtain ⟨fd, U⟩ := cd.def_ 18 (d := d_Lacing_getitem) rfl
      exact ⟨⟨_, fd, ["self", "place"], n_Lacing_getitem, _, _, _, _, _, 60, He.cls_ok (cd.fact 28 (f := .cls "Lacing") rfl), He.meth_ok (cd.fact 35 (f := .meth "Lacing" "__getitem__") rfl), (fun e => absurd e (by decide +kernel)), U, U.bindsN (fun _ _ _ _ _ _ us hl => match us, hl with | [_, _], _ => rfl), s_Lacing_getitem, rfl, rfl, c_Lacing_getitem, by decide +kernel⟩, fun _ e => absurd e (by decide +kernel)⟩
    · cases (show some f_Lacing_neg = some F from (show Γl.fn "Lacing.__neg__" = some f_Lacing_neg from rfl).symm.trans hF)
      obtain ⟨fd, U⟩ := cd.def_ 19 (d := d_Lacing_neg) rfl
      exact ⟨⟨_, fd, ["self"], n_Lacing_neg, _, _, _, _, _, 60, He.cls_ok (cd.fact 28 (f := .cls "Lacing") rfl), He.meth_ok (cd.fact 36 (f := .meth "Lacing" "__neg__") rfl), (fun e => absurd e (by decide +kernel)), U, U.bindsN (fun _ _ _ _ _ _ us hl => match us, hl with | [_], _ => rfl), s_Lacing_neg, rfl, rfl, c_Lacing_neg, by decide +kernel⟩, fun _ e => absurd e (by decide +kernel)⟩
    · cases (show some f_Lacing_bool = some F from (show Γl.fn "Lacing.__bool__" = some f_Lacing_bool from rfl).symm.trans hF)
      obtain ⟨fd, U⟩ := cd.def_ 20 (d := d_Lacing_bool) rfl
      exact ⟨⟨_, fd, ["self"], n_Lacing_bool, _, _, _, _, _, 60, He.cls_ok (cd.fact 28 (f := .cls "Lacing") rfl), He.meth_ok (cd.fact 37 (f := .meth "Lacing" "__bool__") rfl), (fun e => absurd e (by decide +kernel)), U, U.bindsN (fun _ _ _ _ _ _ us hl => match us, hl with | [_], _ => rfl), s_Lacing_bool, rfl, rfl, c_Lacing_bool, by decide +kernel⟩, fun _ e => absurd e (by decide +kernel)⟩
    · cases (show some f_Lacing_eq = some F from (show Γl.fn "Lacing.__eq__" = some f_Lacing_eq from rfl).symm.trans hF)
      obtain ⟨fd, U⟩ := cd.def_ 21 (d := d_Lacing_eq) rfl
      exact ⟨⟨_, fd, ["self", "other"], n_Lacing_eq, _, _, _, _, _, 60, He.cls_ok (cd.fact 28 (f := .cls "Lacing") rfl), He.meth_ok (cd.fact 38 (f := .meth "Lacing" "__eq__") rfl), (fun e => absurd e (by decide +kernel)), U, U.bindsN (fun _ _ _ _ _ _ us hl => match us, hl with | [_, _], _ => rfl), s_Lacing_eq, rfl, rfl, c_Lacing_eq, by decide +kernel⟩, fun _ e => absurd e (by decide +kernel)⟩
  · have hx : (cn, x) ∈ fls := hx
    simp only [fls, List.mem_cons, List.not_mem_nil, or_false, Prod.mk.injEq] at hx
    rcases hx with ⟨rfl, rfl⟩ | ⟨rfl, rfl⟩
    · exact ⟨He.cls_ok (cd.fact 28 (f := .cls "Lacing") rfl), He.noat_ok (cd.fact 30 (f := .noat "Lacing" "pair") rfl)⟩
    · exact ⟨He.cls_ok (cd.fact 28 (f := .cls "Lacing") rfl), He.noat_ok (cd.fact 31 (f := .noat "Lacing" "pictures") rfl)⟩
  · simp only [bnames, List.mem_cons, List.not_mem_nil, or_false] at hx
    rcases hx with rfl | rfl | rfl | rfl | rfl | rfl | rfl | rfl | rfl | rfl | rfl | rfl | rfl | rfl | rfl | rfl | rfl | rfl | rfl
    · exact He.free_ok X G (cd.fact 39 (f := .free "len") rfl)
    · exact He.free_ok X G (cd.fact 40 (f := .free "abs") rfl)
    · exact He.free_ok X G (cd.fact 41 (f := .free "int") rfl)
    · exact He.free_ok X G (cd.fact 42 (f := .free "bool") rfl)
    · exact He.free_ok X G (cd.fact 43 (f := .free "min") rfl)
    · exact He.free_ok X G (cd.fact 44 (f := .free "max") rfl)
    · exact He.free_ok X G (cd.fact 45 (f := .free "sum") rfl)
    · exact He.free_ok X G (cd.fact 46 (f := .free "all") rfl)
    · exact He.free_ok X G (cd.fact 47 (f := .free "any") rfl)
    · exact He.free_ok X G (cd.fact 48 (f := .free "tuple") rfl)
    · exact He.free_ok X G (cd.fact 49 (f := .free "list") rfl)
    · exact He.free_ok X G (cd.fact 50 (f := .free "sorted") rfl)
    · exact He.free_ok X G (cd.fact 51 (f := .free "range") rfl)
    · exact He.free_ok X G (cd.fact 52 (f := .free "zip") rfl)
    · exact He.free_ok X G (cd.fact 53 (f := .free "enumerate") rfl)
    · exact He.free_ok X G (cd.fact 54 (f := .free "isinstance") rfl)
    · exact He.free_ok X G (cd.fact 55 (f := .free "set") rfl)
    · exact He.free_ok X G (cd.fact 56 (f := .free "str") rfl)
    · exact He.free_ok X G (cd.fact 57 (f := .free "ValueError") rfl)
  · have hm : (g, okv, tb) ∈ lmf := hm
    simp only [lmf, List.mem_cons, List.not_mem_nil, or_false, Prod.mk.injEq] at hm
    rcases hm with ⟨rfl, rfl, rfl⟩
    · obtain ⟨fd, U⟩ := cd.def_ 33 (d := d_law_refused) rfl
      exact lmF_ofR (He.free_ok X G (cd.fact 54 (f := .free "isinstance") rfl)) (xh_of (C := ⟨P, w, K, mg, base, (fun x => He.ga K x), false, [((He.cT K d_law.at_).2, ("law" : PySem.Str) ++ ".<locals>." ++ "<lambda>")]⟩) hexc hxsi) (He.glo_ok X G (cd.fact 26 (f := .glo "_law_refused") rfl)) U (U.bindsN (fun _ _ _ _ _ _ us hl => match us, hl with | [_], _ => rfl)) s_law_refused rfl (by decide +kernel) (by decide +kernel) c_law_refused
  · have hm : (cn, x, key) ∈ prp := hm
    simp only [prp, List.mem_cons, List.not_mem_nil, or_false, Prod.mk.injEq] at hm
    rcases hm with ⟨rfl, rfl, rfl⟩ | ⟨rfl, rfl, rfl⟩
    · cases (show some f_Lacing_source = some F from (show Γl.fn "Lacing.source" = some f_Lacing_source from rfl).symm.trans hF)
      obtain ⟨hp, fd, U⟩ := c.pr 0 (y := z_Lacing_source) rfl
      exact ⟨rfl, _, _, fd, ["self"], n_Lacing_source, _, _, _, _, _, 60, He.cls_ok (cd.fact 28 (f := .cls "Lacing") rfl), hp, U, U.bindsN (fun _ _ _ _ _ _ us hl => match us, hl with | [_], _ => rfl), s_Lacing_source, rfl, rfl, c_Lacing_source, by decide +kernel⟩
    · cases (show some f_Lacing_size = some F from (show Γl.fn "Lacing.size" = some f_Lacing_size from rfl).symm.trans hF)
      obtain ⟨hp, fd, U⟩ := c.pr 1 (y := z_Lacing_size) rfl
      exact ⟨rfl, _, _, fd, ["self"], n_Lacing_size, _, _, _, _, _, 60, He.cls_ok (cd.fact 28 (f := .cls "Lacing") rfl), hp, U, U.bindsN (fun _ _ _ _ _ _ us hl => match us, hl with | [_], _ => rfl), s_Lacing_size, rfl, rfl, c_Lacing_size, by decide +kernel⟩
  · have hm : (cn, key) ∈ mks := hm
    simp only [mks, List.mem_cons, List.not_mem_nil, or_false, Prod.mk.injEq] at hm
    rcases hm with ⟨rfl, rfl⟩
    · cases (show some f_Lacing_init = some F from (show Γl.fn "Lacing.__init__" = some f_Lacing_init from rfl).symm.trans hF)
      obtain ⟨fd, U⟩ := cd.def_ 15 (d := d_Lacing_init) rfl
      exact ⟨rfl, _, fd, "self", "start", "holes", n_Lacing_init, _, _, _, _, _, 60, He.glo_ok X G (cd.fact 27 (f := .glo "Lacing") rfl), He.mkr_ok (cd.fact 29 (f := .mkr "Lacing") rfl), U, FunD.starB U (fun _ _ _ _ _ _ _ _ => rfl) (fun _ _ _ _ _ _ _ _ _ _ => rfl), s_Lacing_init, rfl, c_Lacing_init, by decide +kernel⟩
  · have hc : cn ∈ opc := hc
    have ho := c.op hc
    simp only [opc, List.mem_cons, List.not_mem_nil, or_false] at hc
    rcases hc with rfl
    · exact ⟨rfl, He.glo_ok X G (cd.fact 27 (f := .glo "Lacing") rfl), ho⟩
theorem law_fn {P : Program} {w : World} {K : PySem.W.Frag} {h : Heap} {mg : Str → Option Value} {f : Addr} (hlaw : ∀ ns : List Int, ns.length ≤ 63 → ∃ m, callN Γl 20 "law" [.scr (ns.map .int)] [] = .ok (.bl true) m) (X : K.In h) (G : h.Ns mainGlobals mg) (hfa : mg ("law" : PySem.Str) = some (.ref f)) (c : SaysO fa fn co ex [d_law.at_] zs opc h K) :
    ∃ fd : FuncData, (∀ (s : Shared) (v : Value), BindsTo s fd ⟨[v], []⟩ [("_law_script", v)]) ∧ ∀ base : Heap, K.In base → base.Ns mainGlobals mg → LamX.TabB base mg (He.cT K d_law.at_).1 (He.cT K d_law.at_).2 → FnOk P w K mg base (L2N.CX P w) 60 f fd ["_law_script"] (spLaw K [((He.cT K d_law.at_).2, ("law" : PySem.Str) ++ ".<locals>." ++ "<lambda>")]) := by
  obtain ⟨fd, U⟩ := c.t.l.saysD.def_ 32 (d := d_law) rfl
  have e := hfa.symm.trans (He.glo_ok X G (c.t.l.saysD.fact 25 (f := .glo "law") rfl))
  cases e
  have b := FunD.bindsA (ps := ["_law_script"]) U fun _ _ _ _ _ _ us hl => match us, hl with | [_], _ => rfl
  refine ⟨fd, fun s v => b s [v] rfl, fun base KB _ TB => ?_⟩
  have T : Facts ⟨P, w, K, mg, base, (fun x => He.ga K x), false, [((He.cT K d_law.at_).2, ("law" : PySem.Str) ++ ".<locals>." ++ "<lambda>")]⟩ Γl := facts X G c
  have F := fn_okL (lv := 19) (x := "law") (F := f_law) U s_law (know T 19) rfl rfl rfl c_law (by decide) d_law.at_ rfl TB (List.mem_singleton.mpr rfl) (fun q hq _ => by rw [List.mem_singleton.mp hq])
  exact FnOk.imp F fun vs H Q E h => law_sp hlaw vs H Q E h
end LR
open PySem PySem.W PySem.Calls PyProof.Rows
theorem PySem.Challenge.cw_lacerows_k15_lacings_as_values_holds : PySem.Challenge.rw_lacerows_k15_lacings_as_values.Holds := by
  w_on; o_law
  refine HandSHeadRun.head_any (r := OpenLaw.row PySem.Challenge.rw_lacerows_k15_lacings_as_values) (q := view (OpenLaw.row PySem.Challenge.rw_lacerows_k15_lacings_as_values).prog [37]) (H := LR.hk) (ob := LR.ob) (M := 8000) (loose := LR.loose) (d := HandSHeadRun.topDef (OpenLaw.row PySem.Challenge.rw_lacerows_k15_lacings_as_values).prog 37) (kwd := []) LR.ob_eq
    (by kernel_rfl) (fun s => by kernel_rfl) LR.run (by kernel_rfl) (by kernel_rfl) (by kernel_rfl) (by rfl) (by first | assumption | decide +kernel) (by decide +kernel) ⟨rfl, rfl, rfl, rfl, rfl, by decide +kernel⟩ ?hw ?hc
  case hw => w_witness2
  case hc =>
    refine LR.walk_LT (l := PySem.Challenge.rw_lacerows_k15_lacings_as_values) (n := 63) (k := 60) (x := "_law_script") rfl (by decide) (by kernel_rfl) ⟨rfl, by decide, by decide⟩ ?F
    intro w mg fa h Y G hmg0
    obtain ⟨K, KX, c⟩ := Y
    have hmg : mg ("law" : PySem.Str) = some (.ref fa) := by
      have e : (HandSHeadRun.topDef (OpenLaw.row PySem.Challenge.rw_lacerows_k15_lacings_as_values).prog 37).name = ("law" : PySem.Str) := by kernel_rfl
      rw [← e]
      exact hmg0
    obtain ⟨fd, hb, hF⟩ := LR.law_fn (P := (PySem.Challenge.rw_lacerows_k15_lacings_as_values).prog) (w := w) LR.law_true KX G hmg c
    have one : ∀ {Z : Addr × Addr → Prop}, Z (He.cT K LR.d_law.at_) → ∀ p ∈ [He.cT K LR.d_law.at_], Z p := fun hz p hp => by rw [List.mem_singleton.mp hp]; exact hz
    have ml : LR.d_law.at_ ∈ [LR.d_law.at_] := List.mem_singleton.mpr rfl
    exact ⟨K, fd, LR.spLaw K [((He.cT K LR.d_law.at_).2, ("law" : PySem.Str) ++ ".<locals>." ++ "<lambda>")], [He.cT K LR.d_law.at_], KX, one (Z := fun p => h.get? p.2 = some { cls := .none, data := .fields #[] }) (c.t.empty _ ml), one (Z := fun p => K.lookup p.2 = none) (c.t.out _ ml), one (Z := fun p => PySem.W.CodeHd h p.1 p.2) (PySem.W.codeHd_of_K KX (c.t.hd _ ml)), hb, fun H a ns hl hH hS => ⟨a, ns, rfl, hS, hl, fun p hp => by rw [List.mem_singleton.mp hp]; exact hH _ (List.mem_singleton.mpr rfl), fun _ => rfl⟩, fun base KB G2 TB => hF base KB G2 (TB _ (List.mem_singleton.mpr rfl))⟩
