import PyProof.Rows.All
import HandS.ForMost
import HandS.Deep
import HandS.More
import KE.KDictKeyed
import KE.KDictCopyH
import KE.KDictSum
import KE.SortData
import HandS.TupAny
import HandS.Style
import HandS.Conv
import HandS.Flow
import HandS.SortOrd
import HandS.SortInts
import KE.LtData
import PyProof.DictUpdate
import PyProof.DictDisplay
import PyProof.Transfer
import KE.KDictWalk
import KE.KDictDisplayH
import PyProof.TupleOfSeq
import HandS.SetFor
import HandS.Set
import HandS.Strs
import HandS.TupSets
import HandS.Zip
import HandS.SetTxt0
import HandS.DictComp
import HandS.DictTup
import HandS.IsInst
import HandS.Defaults
import HandS.Head0
import HandS.Head1
import HandS.Head2
import HandS.HeadEnd
import HandS.HeadHook1
import HandS.HeadHook2
import PySem.Challenge.RW_wordkinds_k74_forms_as_structures
set_option Elab.async false
set_option linter.all false
set_option maxRecDepth 100000
/-! DN0: dicts whose keys are tuples of tuples. -/
namespace DL
open PySem PySem.Spec L2
open PyProof.Rows hiding St
mutual
/-- v, in H, is the key -/
inductive NAt (H : Hp) : NestedKey → V → Prop
  | none : NAt H .none .non
  | num (i : Int) : NAt H (.num i) (.int i)
  | text (x : Str) : NAt H (.text x) (.str x)
  | tup {b : Addr} {vs : List V} {ks : List NestedKey} : H b = some (.tup vs) → NAtL H ks vs → NAt H (.tup ks) (.ref b)
inductive NAtL (H : Hp) : List NestedKey → List V → Prop
  | nil : NAtL H [] []
  | cons {k : NestedKey} {ks : List NestedKey} {v : V} {vs : List V} : NAt H k v → NAtL H ks vs → NAtL H (k :: ks) (v :: vs)
end
section
variable {P : Program} {w : World} {H H' : Hp} {h : Heap}
mutual
theorem NAt.mono (s : ∀ a o, H a = some o → H' a = some o) : ∀ {k : NestedKey} {v : V}, NAt H k v → NAt H' k v
  | _, _, .none => .none
  | _, _, .num i => .num i
  | _, _, .text x => .text x
  | _, _, .tup e t => .tup (s _ _ e) (NAtL.mono s t)
theorem NAtL.mono (s : ∀ a o, H a = some o → H' a = some o) : ∀ {ks : List NestedKey} {vs : List V}, NAtL H ks vs → NAtL H' ks vs
  | _, _, .nil => .nil
  | _, _, .cons a t => .cons (NAt.mono s a) (NAtL.mono s t)
end
mutual
theorem NAt.is (ok : HOk P w H h) : ∀ {k : NestedKey} {v : V} {u : Value}, NAt H k v → RelV v u → NestedIs h k u
  | _, _, u, .none, r => by
    obtain rfl : u = Value.none := r
    exact .none
  | _, _, u, .num i, r => by
    obtain ⟨t, rfl⟩ := (show ∃ t, u = Value.int i t from r)
    exact .int i t
  | _, _, u, .text x, r => by
    obtain ⟨t, rfl⟩ := (show ∃ t, u = Value.str x t from r)
    exact .text x t
  | _, _, u, .tup (vs := vs) e t, r => by
    obtain rfl : u = Value.ref _ := r
    obtain ⟨_, its, rv, o, h1, h2, n, h3⟩ := (show ObjOk P w H h _ (.tup vs) from ok _ _ e)
    exact .tup h1 h2 h3 (by simpa using NAtL.is ok t rv)
theorem NAtL.is (ok : HOk P w H h) : ∀ {ks : List NestedKey} {vs : List V} {us : List Value}, NAtL H ks vs → Vals vs us → NestedAll h ks us
  | _, _, _, .nil, r => by cases r; exact .nil
  | _, _, _, .cons a t, r => by
    cases r with
    | cons r1 r2 => exact .cons (NAt.is ok a r1) (NAtL.is ok t r2)
end
end
/-- key, where its tuple stands, value -/
abbrev NE := NestedKey × Addr × V
abbrev NT : List NE → List (NestedKey × Addr × Value) → Prop := Paired fun p q => p.1 = q.1 ∧ p.2.1 = q.2.1 ∧ RelV p.2.2 q.2.2
def valN (es : List NE) (k : NestedKey) : Option V := valV (es.map fun x => (x.1, x.2.2)) k
def putN (es : List NE) (k : NestedKey) (b : Addr) (v : V) : List NE := if (valN es k).isSome then es.map (fun x => if x.1 = k then (x.1, x.2.1, v) else x) else es ++ [(k, b, v)]
/-- a dict with such keys -/
def DnO (P : Program) (w : World) (a : Addr) (es : List NE) : HO := .ext fun h => es.length ≤ sizeLine ∧ (a == sysModules) = false ∧ ∃ xs : List (NestedKey × Addr × Value), NT es xs ∧
  ∃ o ds ep, h.get? a = some o ∧ o.ExactDict ∧ o.data = .dict ds ep ∧ ds.toList = xs.map (entryOfKey (nestedKind P w)) ∧ (xs.map (·.1)).Nodup
def KsN (H : Hp) (es : List NE) : Prop := ∀ x ∈ es, NAt H x.1 (.ref x.2.1) ∧ x.1.depth ≤ 8
theorem NT.val {es : List NE} {xs : List (NestedKey × Addr × Value)} (r : NT es xs) (k : NestedKey) : RelO (valN es k) ((atKey xs k).map (·.2)) := by
  unfold valN
  induction r with
  | nil => exact True.intro
  | @cons p q ps qs h t ih =>
    obtain ⟨h1, _, h2⟩ := h
    by_cases e : p.1 = k
    · have e' : q.1 = k := h1.symm.trans e
      have b : atKey (q :: qs) k = some q.2 := by simp [atKey, List.find?_cons, e']
      rw [List.map_cons, valV_pos (p := (p.1, p.2.2)) e, b]; exact h2
    · have e' : ¬ q.1 = k := fun z => e (h1.trans z)
      have b : atKey (q :: qs) k = atKey qs k := by simp [atKey, List.find?_cons, e']
      rw [List.map_cons, valV_neg (p := (p.1, p.2.2)) e, b]; exact ih
theorem NT.repl {es : List NE} {xs : List (NestedKey × Addr × Value)} (r : NT es xs) (k : NestedKey) {y : V} {u : Value} (ry : RelV y u) :
    NT (es.map fun x => if x.1 = k then (x.1, x.2.1, y) else x) (xs.map (putAt k u)) := by
  induction r with
  | nil => exact .nil
  | @cons p q ps qs h t ih =>
    rw [List.map_cons, List.map_cons]
    refine .cons ?_ ih
    obtain ⟨h1, h2, h3⟩ := h
    unfold putAt
    by_cases e : p.1 = k
    · rw [if_pos e, if_pos (h1.symm.trans e)]; exact ⟨h1, h2, ry⟩
    · rw [if_neg e, if_neg (fun z => e (h1.trans z))]; exact ⟨h1, h2, h3⟩
theorem NT.put {es : List NE} {xs : List (NestedKey × Addr × Value)} (r : NT es xs) (k : NestedKey) (b : Addr) {y : V} {u : Value} (ry : RelV y u) : NT (putN es k b y) (storedH xs k b u) := by
  have e : (valN es k).isSome = (atKey xs k).isSome := by rw [(r.val k).isSome_eq, Option.isSome_map]
  unfold putN storedH
  rw [e]
  by_cases q : (atKey xs k).isSome = true
  · rw [if_pos q, if_pos q]; exact r.repl k ry
  · rw [if_neg q, if_neg q]; exact Paired.snoc r ⟨rfl, rfl, ry⟩
theorem putN_le (es : List NE) (k : NestedKey) (b : Addr) (v : V) : (putN es k b v).length ≤ es.length + 1 := by
  unfold putN
  split
  · rw [List.length_map]; omega
  · rw [List.length_append]; exact Nat.le_refl _
section
variable {P : Program} {w : World} {H : Hp} {h : Heap} {a : Addr} {es : List NE}
theorem dn_rd (ok : HOk P w H h) (e : Rd H a (DnO P w a es)) (ks : KsN H es) : es.length ≤ sizeLine ∧ (a == sysModules) = false ∧ ∃ xs, NT es xs ∧ h.DictOfH (nestedKind P w) a xs := by
  obtain ⟨⟨z, y, xs, r, o, ds, ep, h1, h2, h3, h4, h5⟩, _⟩ := (show ObjOk P w H h a (DnO P w a es) from rd_of ok e)
  refine ⟨z, y, xs, r, o, ds, ep, h1, h2, h3, h4, fun x hx => ?_, h5⟩
  have all : ∀ {l : List NE} {m : List (NestedKey × Addr × Value)}, NT l m → KsN H l → ∀ x ∈ m, (nestedKind P w).is h x.1 x.2.1 := by
    intro l m q
    induction q with
    | nil => intro _ x hx; exact nomatch hx
    | @cons p q ps qs hq t ih =>
      intro kk x hx
      rcases List.mem_cons.mp hx with e | hx
      · subst e
        obtain ⟨k1, k2⟩ := kk p List.mem_cons_self
        exact ⟨by rw [← hq.1, ← hq.2.1]; exact k1.is ok rfl, by rw [← hq.1]; exact k2⟩
      · exact ih (fun y hy => kk y (List.mem_cons_of_mem _ hy)) x hx
  exact all r ks x hx
theorem dn_new {H' : Hp} {h' : Heap} {xs : List (NestedKey × Addr × Value)} (z : es.length ≤ sizeLine) (hd : (a == sysModules) = false) (rel : NT es xs) (dd : ∃ o ds ep, h'.get? a = some o ∧ o.ExactDict ∧ o.data = .dict ds ep ∧ ds.toList = xs.map (entryOfKey (nestedKind P w)) ∧ (xs.map (·.1)).Nodup) :
    ObjOk P w H' h' a (DnO P w a es) := by
  obtain ⟨o, ds, ep, h1, h2⟩ := dd
  refine ⟨⟨z, hd, xs, rel, o, ds, ep, h1, h2⟩, ⟨o, h1⟩, fun g1 g2 ⟨z1, z2, ys, r, o', ds', ep', q1, q2⟩ st => ⟨z1, z2, ys, r, o', ds', ep', st _ q1, q2⟩⟩
theorem dn_empty (h : Heap) (hb : sysModules < h.objs.size) : ObjOk P w H (h.push { cls := .type "dict", data := .dict #[] }) h.objs.size (DnO P w h.objs.size []) :=
  dn_new (Nat.zero_le _) (beq_eq_false_iff_ne.mpr (Ne.symm (Nat.ne_of_lt hb))) .nil ⟨_, #[], 0, Heap.get?_push_size _ rfl, ⟨rfl, rfl, rfl⟩, rfl, rfl, List.nodup_nil⟩
end
/-- what the dict at a holds at the key y -/
def DGetN (P : Program) (w : World) (H : Hp) (a : Addr) (y : V) (r : Option V) : Prop := ∃ es k b, Rd H a (DnO P w a es) ∧ KsN H es ∧ y = .ref b ∧ NAt H k (.ref b) ∧ k.depth ≤ 8 ∧ r = valN es k
def DPutN (P : Program) (w : World) (H : Hp) (a : Addr) (y v : V) (H' : Hp) : Prop := ∃ es k b, H a = some (DnO P w a es) ∧ KsN H es ∧ y = .ref b ∧ NAt H k (.ref b) ∧ k.depth ≤ 8 ∧ es.length < sizeLine ∧ H' = upd H a (DnO P w a (putN es k b v))
section
variable {X : Cx} {pins : List (Addr × Obj)} {σ : L2.St} {H : Hp} {s : Shared} {a : Addr} {y v d : V} {u r : Value} {o : Option V} {A : Around} {E : Value → Shared → Prop}
theorem dn_typeIs (I : Inv X pins σ H s) (g : DGetN X.prog X.w H a y o) : s.TypeIs (.ref a) "dict" ∧ (∀ b, Value.ref a = .ref b → ∃ ob, s.heap.get? b = some ob ∧ ob.dict = none) := by
  obtain ⟨es, k, b, e, ks, _⟩ := g
  obtain ⟨_, _, xs, _, dd⟩ := dn_rd I.hok e ks
  refine ⟨dd.typeIs, fun b q => ?_⟩
  cases q
  obtain ⟨ob, _, _, h1, h2, _⟩ := dd
  exact ⟨ob, h1, h2.2.1⟩
theorem dn_getItem {Q : Value → Shared → Prop} (hu : A.units + 64 < cLine) (I : Inv X pins σ H s) (g : DGetN X.prog X.w H a y (some v)) (ry : RelV y u) (h : ∀ w' s', Inv X pins σ H s' → RelV v w' → Q w' s') :
    wpAny (model X.prog X.w) A (getItem (.ref a) u) Q E s := by
  obtain ⟨es, k, b, e, ks, ey, ek, kd, l⟩ := g
  subst ey
  cases (show u = Value.ref b from ry)
  obtain ⟨z, hd, xs, rel, dd⟩ := dn_rd I.hok e ks
  obtain ⟨w', hw, rw'⟩ := RelO.some_of (v := v) (o := (atKey xs k).map (·.2)) (by rw [l]; exact rel.val k)
  obtain ⟨p, hp, hp2⟩ := Option.map_eq_some_iff.mp hw
  refine wpAny_getItem_heap (knd := nestedKind X.prog X.w) (show A.in1.units + 8 < cLine by simp only [Around.in1_units]; omega) ⟨ek.is I.hok rfl, kd⟩ dd hp ?_
  rw [hp2]
  exact h w' _ (I.tok _) rw'
theorem dn_get2 {Q : Value → Shared → Prop} (hu : A.units + 64 < cLine) (I : Inv X pins σ H s) (g : DGetN X.prog X.w H a y o) (ry : RelV y u) (rd : RelV d r) (h : ∀ w' s', Inv X pins σ H s' → RelV (o.getD d) w' → Q w' s') :
    wpAny (model X.prog X.w) A (call (.builtin "dict.get") [.ref a, u, r]) Q E s := by
  obtain ⟨es, k, b, e, ks, ey, ek, kd, l⟩ := g
  subst ey
  cases (show u = Value.ref b from ry)
  obtain ⟨z, hd, xs, rel, dd⟩ := dn_rd I.hok e ks
  refine call_meetsIn PySem.F.slot_dict_get dd.typeIs PySem.F.entry_dict_get (PySem.F.args_dict_get_3 _ _ _) (meetsH_dict_get_default (nestedKind X.prog X.w) a b hd r) ⟨(show A.in1.units + 8 < cLine by simp only [Around.in1_units]; omega), k, xs, ⟨ek.is I.hok rfl, kd⟩, dd, h _ _ (I.tok _) ?_⟩
  rw [l]
  exact (rel.val k).getD rd
theorem dn_setItem {H' : Hp} {Q : Unit → Shared → Prop} (hu : A.units + 64 < cLine) (I : Inv X pins σ H s) (g : DPutN X.prog X.w H a y v H') (ry : RelV y u) (rv : RelV v r) (h : ∀ s', Inv X pins σ H' s' → Q () s') :
    wpAny (model X.prog X.w) A (setItem (.ref a) u r) Q E s := by
  obtain ⟨es, k, b, e, ks, ey, ek, kd, l, eH⟩ := g
  subst ey eH
  cases (show u = Value.ref b from ry)
  obtain ⟨z, hd, xs, rel, dd⟩ := dn_rd I.hok (.inl e) ks
  have hz : xs.length ≤ sizeLine := by rw [← Paired.length rel]; exact z
  have hl : (putN es k b v).length ≤ sizeLine := by have := putN_le es k b v; omega
  refine wpAny_setItem_heap (knd := nestedKind X.prog X.w) (hsz := hz) (show A.in1.units + 8 < cLine by simp only [Around.in1_units]; omega) ⟨ek.is I.hok rfl, kd⟩ dd fun h' dd' hs => h _ ?_
  obtain ⟨q, ds, ep, hq, h2, h3, h4, _, h5⟩ := dd'
  exact d_write I (by rw [e]; exact True.intro) hs ⟨q, hq⟩ (dn_new hl hd (rel.put k b rv) ⟨q, ds, ep, hq, h2, h3, h4, h5⟩)
end
def tDGetN (P : Program) (w : World) (td ty : TE) : TE := fun σ H Q => td σ H fun x H1 => ty σ H1 fun y H2 => ∃ a v, x = .ref a ∧ DGetN P w H2 a y (some v) ∧ Q v H2
def sDPutN (P : Program) (w : World) (td ty tv : TE) : TS := fun D σ H => tv σ H fun v H1 => td σ H1 fun x H2 => ty σ H2 fun y H3 => ∃ a H4, x = .ref a ∧ DPutN P w H3 a y v H4 ∧ D.nx σ H4
def IsN (P : Program) (w : World) (H : Hp) (a : Addr) : Prop := ∃ es, Rd H a (DnO P w a es) ∧ KsN H es
def tDGet2N (P : Program) (w : World) (td ty tx : TE) : TE := fun σ H Q => td σ H fun x H1 => ∃ a, x = .ref a ∧ IsN P w H1 a ∧ ty σ H1 fun y H2 => tx σ H2 fun z H3 => ∃ o, DGetN P w H3 a y o ∧ Q (o.getD z) H3
def tDNewN (P : Program) (w : World) : TE := fun _ H Q => ∀ p, H p = none → Q (.ref p) (upd H p (DnO P w p []))
section
variable {X : Cx} {o i e f value : Expr} {pos pos' tpos apos cpos : Pos} {td ty tv tx : TE}
theorem pe_dnewN : PE X (.Dict [] [] pos) (tDNewN X.prog X.w) := ⟨fun pins s σ H Q I h =>
  wpAny_Dict_empty ⟨.ref s.heap.objs.size, _, I.laid (a := s.heap.objs.size) (o := DnO X.prog X.w s.heap.objs.size []) (t' := s.toks) (fun _ _ q => Heap.get?_push_of_some _ q) (Nat.le_refl _) (dn_empty s.heap I.big), rfl, h _ (I.hok.fresh (Nat.le_refl _))⟩⟩
theorem ps_dputN (hu : X.A.units + 64 < cLine) (ho : PE X o td) (hi : PE X i ty) (hv : PE X value tv) (hs : swapsWith value (some (.Subscript o i pos')) pos.line X.env = pure false) :
    PS X (.Assign [.Subscript o i pos'] value pos) (sDPutN X.prog X.w td ty tv) := by
  refine ⟨fun pins s σ H D I h => ?_⟩
  refine wpAny_Assign_Subscript (thn (hv.run pins s σ H _ I h) fun r s1 ⟨v, H1, I1, rv, q1⟩ => thn (ho.run pins s1 σ H1 _ I1 q1) fun u s2 ⟨x, H2, I2, rx, q2⟩ => thn (hi.run pins s2 σ H2 _ I2 q2) fun iv s3 ⟨y, H3, I3, ry, a, H4, ex, g, q3⟩ => ?_) hs
  subst ex
  obtain rfl : u = Value.ref a := rx
  exact dn_setItem hu I3 g ry rv fun s4 I4 => ⟨σ, H4, I4, q3⟩
theorem isN_at {pins : List (Addr × Obj)} {σ : L2.St} {H : Hp} {s : Shared} {a : Addr} (I : Inv X pins σ H s) (d : IsN X.prog X.w H a) :
    s.TypeIs (.ref a) "dict" ∧ (∀ b, Value.ref a = .ref b → ∃ ob, s.heap.get? b = some ob ∧ ob.dict = none) := by
  obtain ⟨es, e, ks⟩ := d
  obtain ⟨_, _, xs, _, dd⟩ := dn_rd I.hok e ks
  refine ⟨dd.typeIs, fun b q => ?_⟩
  cases q
  obtain ⟨ob, _, _, h1, h2, _⟩ := dd
  exact ⟨ob, h1, h2.2.1⟩
theorem pe_dget2N (hu : X.A.units + 64 < cLine) (ho : PE X o td) (he : PE X e ty) (hf : PE X f tx) (m : M2 X o "get" apos e f cpos) : PE X (.Call (.Attribute o "get" apos) [e, f] [] cpos) (tDGet2N X.prog X.w td ty tx) := by
  refine ⟨fun pins s σ H Q I h => ?_⟩
  refine wpAny_Call_method m.base m.few m.line PySem.F.plainAttrs_dict PySem.F.slot_dict_get PySem.F.type_dict_get (thn (ho.run pins s σ H _ I h) fun u s1 ⟨x, H1, I1, rx, a, ex, d, q1⟩ => ?_)
  subst ex
  obtain rfl : u = Value.ref a := rx
  obtain ⟨t1, t2⟩ := isN_at I1 d
  refine ⟨t1, t2, ?_⟩
  rw [m.trees]
  refine Calls.callWith_builtin rfl (Calls.evalArgs_plain (Calls.spliced_cons (thn (he.run pins s1 σ H1 _ I1 q1) fun iv s2 ⟨y, H2, I2, ry, q2⟩ =>
    Calls.spliced_cons (thn (hf.run pins s2 σ H2 _ I2 q2) fun fv s3 ⟨z, H3, I3, rz, ov, g, q3⟩ => Calls.spliced_nil ?_))))
  exact dn_get2 hu I3 g ry rz fun w' s4 I4 rw' => ⟨_, H3, I4, rw', q3⟩
def rIxN (P : Program) (w : World) : R2 := fun x y H Q => ∃ a v, x = .ref a ∧ DGetN P w H a y (some v) ∧ Q v H
theorem ix_dcn (hu : X.A.units + 64 < cLine) : IxR X (rIxN X.prog X.w) := by
  intro value slice pins s σ H x y v u Q I rx ry h hs
  obtain ⟨a, z, rfl, g, q⟩ := h
  cases rx
  exact PyProof.Rows.tail_any (dn_typeIs I g).1 PySem.F.slot_dict_getitem.lookup (dn_getItem hu I g ry fun w' s' I' r => ⟨z, H, I', r, q⟩) hs
end
end DL

set_option Elab.async false
set_option linter.all false
set_option maxRecDepth 100000
/-! DL1: values as trees, results with draws, what stands in the heap for a tree, the judgements by trees. -/
namespace DL
open PySem PySem.Spec L2
open PyProof.Rows hiding St

/-! ### results: a value, nothing told, or a draw from 0 to below k -/
inductive M (α : Type) where
  | ret (a : α)
  | fail
  | ask (k : Int) (f : Int → M α)
namespace M
def bind {α β : Type} : M α → (α → M β) → M β
  | .ret a, g => g a
  | .fail, _ => .fail
  | .ask k f, g => .ask k fun i => (f i).bind g
instance : Monad M where
  pure := M.ret
  bind := M.bind
def wp {α : Type} : M α → (α → Prop) → Prop
  | .ret a, Q => Q a
  | .fail, _ => False
  | .ask k f, Q => (0 < k ∧ k < 2 ^ 30) ∧ ∀ r, 0 ≤ r → r < k → (f r).wp Q
theorem wp_bind {α β : Type} {m : M α} {g : α → M β} {Q : β → Prop} : (m.bind g).wp Q ↔ m.wp fun a => (g a).wp Q := by
  induction m with
  | ret a => exact Iff.rfl
  | fail => exact Iff.rfl
  | ask k f ih =>
    show ((_ ∧ _) ∧ _) ↔ ((_ ∧ _) ∧ _)
    constructor
    · exact fun ⟨a, b⟩ => ⟨a, fun r h1 h2 => (ih r).mp (b r h1 h2)⟩
    · exact fun ⟨a, b⟩ => ⟨a, fun r h1 h2 => (ih r).mpr (b r h1 h2)⟩
theorem wp_mono {α : Type} {m : M α} {Q Q' : α → Prop} (h : m.wp Q) (hq : ∀ a, Q a → Q' a) : m.wp Q' := by
  induction m with
  | ret a => exact hq a h
  | fail => exact h
  | ask k f ih => exact ⟨h.1, fun r h1 h2 => ih r (h.2 r h1 h2)⟩
theorem wpb {α β : Type} {m : M α} {g : α → M β} {Q : β → Prop} (h : (m >>= g).wp Q) : m.wp fun a => (g a).wp Q := wp_bind.mp h
@[simp] theorem bind_ret {α β : Type} (a : α) (g : α → M β) : (M.ret a >>= g) = g a := rfl
@[simp] theorem bind_fail {α β : Type} (g : α → M β) : ((M.fail : M α) >>= g) = M.fail := rfl
@[simp] theorem pure_ret {α : Type} (a : α) : (pure a : M α) = M.ret a := rfl
theorem bind_assoc' {α β γ : Type} (m : M α) (g : α → M β) (h : β → M γ) : (m.bind g).bind h = m.bind fun a => (g a).bind h := by
  induction m with
  | ret a => rfl
  | fail => rfl
  | ask k f ih => show M.ask k _ = M.ask k _; congr 1; funext i; exact ih i
theorem bind_pure' {α : Type} (m : M α) : m.bind M.ret = m := by
  induction m with
  | ret a => rfl
  | fail => rfl
  | ask k f ih => show M.ask k _ = M.ask k _; congr 1; funext i; exact ih i
instance : LawfulMonad M := LawfulMonad.mk' M (id_map := fun x => bind_pure' x) (pure_bind := fun _ _ => rfl) (bind_assoc := fun m g h => bind_assoc' m g h)
theorem wp_ret {α : Type} {a : α} {Q : α → Prop} : (M.ret a).wp Q ↔ Q a := Iff.rfl
theorem wp_pure {α : Type} {a : α} {Q : α → Prop} : (pure a : M α).wp Q ↔ Q a := Iff.rfl
/-- a result of which something is asked -/
def guard (b : Bool) : M Unit := if b then .ret () else .fail
theorem wp_guard {b : Bool} {Q : Unit → Prop} (h : (guard b).wp Q) : b = true ∧ Q () := by
  cases b with
  | true => exact ⟨rfl, h⟩
  | false => exact h.elim
def opt {α : Type} : Option α → M α
  | some a => .ret a
  | none => .fail
theorem wp_opt {α : Type} {o : Option α} {Q : α → Prop} (h : (opt o).wp Q) : ∃ a, o = some a ∧ Q a := by
  cases o with
  | some a => exact ⟨a, rfl, h⟩
  | none => exact h.elim
end M

/-! ### trees -/
inductive D where
  | non | bl (b : Bool) | int (i : Int) | str (x : Str) | tup (xs : List D) | lst (xs : List D) | dct (t : Bool) (kvs : List (D × D)) | dcn (kvs : List (D × D)) | stt
/-- a list, a dict: what may be changed -/
def D.mut : D → Bool
  | .lst _ => true
  | .dct _ _ => true
  | .dcn _ => true
  | _ => false

/-- where the law's own state stands: the pair, its list of cells -/
structure SA where
  sa : Addr
  ca : Addr
  pr : Program
  wd : World

/-- a dict's key, an int or a text -/
def KeyD (d : D) (k : Key) : Prop := (∃ i, d = .int i ∧ k = .inl i) ∨ ∃ x, d = .str x ∧ k = .inr x ∧ PyData.strOk x = true ∧ x.length ≤ sizeLine
def KeysD : List D → List Key → Prop
  | [], [] => True
  | d :: ds, k :: ks => KeyD d k ∧ KeysD ds ks
  | _, _ => False
mutual
/-- a tree as a key, nested -/
def D.nk : D → Option NestedKey
  | .non => some .none
  | .int i => some (.num i)
  | .str x => some (.text x)
  | .tup xs => (D.nkL xs).map .tup
  | .bl _ => none
  | .lst _ => none
  | .dct _ _ => none
  | .dcn _ => none
  | .stt => none
def D.nkL : List D → Option (List NestedKey)
  | [] => some []
  | x :: xs => match D.nk x, D.nkL xs with
    | some k, some ks => some (k :: ks)
    | _, _ => none
end
mutual
/-- v, read in F, is the tree d -/
inductive Rp (S : SA) (F : Hp) : D → V → Prop
  | non : Rp S F .non .non
  | bl (b : Bool) : Rp S F (.bl b) (.bl b)
  | int (i : Int) : Rp S F (.int i) (.int i)
  | str (x : Str) : PyData.strOk x = true → x.length ≤ sizeLine → Rp S F (.str x) (.str x)
  | tup {a : Addr} {xs : List D} {vs : List V} : F a = some (.tup vs) → RpL S F xs vs → vs.length ≤ sizeLine → Rp S F (.tup xs) (.ref a)
  | lst {a : Addr} {xs : List D} {vs : List V} : F a = some (.lst vs) → RpL S F xs vs → vs.length ≤ sizeLine → Rp S F (.lst xs) (.ref a)
  | dctK {a : Addr} {o : Obj} {kvs : List (D × D)} {es : List (Key × V)} : F a = some (.frz o (.dK es)) → RpK S F kvs es → es.length ≤ sizeLine → Rp S F (.dct false kvs) (.ref a)
  | dctT {a : Addr} {o : Obj} {kvs : List (D × D)} {es : List (List Key × V)} : F a = some (.frz o (.dT es)) → RpT S F kvs es → es.length ≤ sizeLine → Rp S F (.dct true kvs) (.ref a)
  | dcn {a : Addr} {o : Obj} {kvs : List (D × D)} {es : List NE} : F a = some (.frz o (DnO S.pr S.wd a es)) → RpN S F kvs es → es.length ≤ sizeLine → Rp S F (.dcn kvs) (.ref a)
  | stt : Rp S F .stt (.ref S.sa)
inductive RpL (S : SA) (F : Hp) : List D → List V → Prop
  | nil : RpL S F [] []
  | cons {d : D} {ds : List D} {v : V} {vs : List V} : Rp S F d v → RpL S F ds vs → RpL S F (d :: ds) (v :: vs)
inductive RpK (S : SA) (F : Hp) : List (D × D) → List (Key × V) → Prop
  | nil : RpK S F [] []
  | cons {kd d : D} {kvs : List (D × D)} {k : Key} {v : V} {es : List (Key × V)} : KeyD kd k → Rp S F d v → RpK S F kvs es → RpK S F ((kd, d) :: kvs) ((k, v) :: es)
inductive RpT (S : SA) (F : Hp) : List (D × D) → List (List Key × V) → Prop
  | nil : RpT S F [] []
  | cons {kds : List D} {d : D} {kvs : List (D × D)} {ks : List Key} {v : V} {es : List (List Key × V)} : KeysD kds ks → Rp S F d v → RpT S F kvs es → RpT S F ((.tup kds, d) :: kvs) ((ks, v) :: es)
inductive RpN (S : SA) (F : Hp) : List (D × D) → List NE → Prop
  | nil : RpN S F [] []
  | cons {kd d : D} {kvs : List (D × D)} {k : NestedKey} {b : Addr} {v : V} {es : List NE} : Rp S F kd (.ref b) → D.nk kd = some k → k.depth ≤ 8 → Rp S F d v → RpN S F kvs es → RpN S F ((kd, d) :: kvs) ((k, b, v) :: es)
end
/-- F' holds what F holds -/
def Sub (F F' : Hp) : Prop := ∀ a o, F a = some o → F' a = some o
theorem Sub.refl (F : Hp) : Sub F F := fun _ _ h => h
theorem Sub.trans {F F1 F2 : Hp} (a : Sub F F1) (b : Sub F1 F2) : Sub F F2 := fun c o h => b c o (a c o h)
theorem Sub.no {F F' : Hp} (s : Sub F F') {a : Addr} (h : F' a = none) : F a = none := by
  cases q : F a with
  | none => rfl
  | some o => rw [s a o q] at h; cases h
theorem sub_upd {F : Hp} {a : Addr} {o : HO} (h : F a = none) : Sub F (upd F a o) := fun b x e => by rw [upd_ne (ne_of_none e h)]; exact e
section
variable {S : SA} {F F' : Hp}
mutual
theorem Rp.mono (s : Sub F F') : ∀ {d : D} {v : V}, Rp S F d v → Rp S F' d v
  | _, _, .non => .non
  | _, _, .bl b => .bl b
  | _, _, .int i => .int i
  | _, _, .str x h z => .str x h z
  | _, _, .tup h r z => .tup (s _ _ h) (RpL.mono s r) z
  | _, _, .lst h r z => .lst (s _ _ h) (RpL.mono s r) z
  | _, _, .dctK h r z => .dctK (s _ _ h) (RpK.mono s r) z
  | _, _, .dctT h r z => .dctT (s _ _ h) (RpT.mono s r) z
  | _, _, .dcn h r z => .dcn (s _ _ h) (RpN.mono s r) z
  | _, _, .stt => .stt
theorem RpL.mono (s : Sub F F') : ∀ {ds : List D} {vs : List V}, RpL S F ds vs → RpL S F' ds vs
  | _, _, .nil => .nil
  | _, _, .cons h t => .cons (Rp.mono s h) (RpL.mono s t)
theorem RpK.mono (s : Sub F F') : ∀ {ds : List (D × D)} {vs : List (Key × V)}, RpK S F ds vs → RpK S F' ds vs
  | _, _, .nil => .nil
  | _, _, .cons k h t => .cons k (Rp.mono s h) (RpK.mono s t)
theorem RpT.mono (s : Sub F F') : ∀ {ds : List (D × D)} {vs : List (List Key × V)}, RpT S F ds vs → RpT S F' ds vs
  | _, _, .nil => .nil
  | _, _, .cons k h t => .cons k (Rp.mono s h) (RpT.mono s t)
theorem RpN.mono (s : Sub F F') : ∀ {ds : List (D × D)} {vs : List NE}, RpN S F ds vs → RpN S F' ds vs
  | _, _, .nil => .nil
  | _, _, .cons k n l h t => .cons (Rp.mono s k) n l (Rp.mono s h) (RpN.mono s t)
end
theorem RpL.len : ∀ {ds : List D} {vs : List V}, RpL S F ds vs → ds.length = vs.length
  | _, _, .nil => rfl
  | _, _, .cons _ t => congrArg (· + 1) (RpL.len t)
theorem RpL.get : ∀ {ds : List D} {vs : List V} {i : Nat} {d : D}, RpL S F ds vs → ds[i]? = some d → ∃ v, vs[i]? = some v ∧ Rp S F d v
  | _, _, _, _, .nil, e => by simp at e
  | _, _, 0, _, .cons r _, e => by simp at e; subst e; exact ⟨_, rfl, r⟩
  | _, _, i + 1, d, .cons _ t, e => by
    obtain ⟨u, h1, h2⟩ := RpL.get (i := i) (d := d) t (by simpa using e)
    exact ⟨u, by simpa using h1, h2⟩
theorem RpL.append : ∀ {ds es : List D} {vs us : List V}, RpL S F ds vs → RpL S F es us → RpL S F (ds ++ es) (vs ++ us)
  | _, _, _, _, .nil, s => s
  | _, _, _, _, .cons r t, s => .cons r (RpL.append t s)
theorem RpL.take : ∀ {ds : List D} {vs : List V} (n : Nat), RpL S F ds vs → RpL S F (ds.take n) (vs.take n)
  | _, _, 0, _ => .nil
  | _, _, _ + 1, .nil => .nil
  | _, _, n + 1, .cons r t => .cons r (RpL.take n t)
theorem RpL.drop : ∀ {ds : List D} {vs : List V} (n : Nat), RpL S F ds vs → RpL S F (ds.drop n) (vs.drop n)
  | _, _, 0, r => r
  | _, _, _ + 1, .nil => .nil
  | _, _, n + 1, .cons _ t => RpL.drop n t
theorem RpL.set {d : D} {v : V} (r : Rp S F d v) : ∀ {ds : List D} {vs : List V} (i : Nat), RpL S F ds vs → RpL S F (ds.set i d) (vs.set i v)
  | _, _, _, .nil => .nil
  | _, _, 0, .cons _ t => .cons r t
  | _, _, i + 1, .cons q t => .cons q (RpL.set r i t)
theorem RpL.eraseIdx : ∀ {ds : List D} {vs : List V} (i : Nat), RpL S F ds vs → RpL S F (ds.eraseIdx i) (vs.eraseIdx i)
  | _, _, _, .nil => .nil
  | _, _, 0, .cons _ t => t
  | _, _, i + 1, .cons q t => .cons q (RpL.eraseIdx i t)
theorem RpL.reverse : ∀ {ds : List D} {vs : List V}, RpL S F ds vs → RpL S F ds.reverse vs.reverse
  | _, _, .nil => .nil
  | _, _, .cons r t => by rw [List.reverse_cons, List.reverse_cons]; exact RpL.append (RpL.reverse t) (.cons r .nil)
end

/-! ### the frame's names by trees: a value that stands still, a list of this frame's own, or one that is only looked at -/
inductive Sl where
  | val (d : D)
  | own (d : D)
  | bor (d : D)
abbrev DEnv := List (Option Sl)
/-- what stands at p, its own list, is d -/
def OwnR (S : SA) (F H : Hp) (p : Addr) : D → Prop
  | .lst xs => ∃ vs, H p = some (.lst vs) ∧ RpL S F xs vs ∧ vs.length ≤ sizeLine
  | .dct false kvs => ∃ es, H p = some (.dK es) ∧ RpK S F kvs es ∧ es.length ≤ sizeLine
  | .dct true kvs => ∃ es, H p = some (.dT es) ∧ RpT S F kvs es ∧ es.length ≤ sizeLine
  | .dcn kvs => ∃ es, H p = some (DnO S.pr S.wd p es) ∧ RpN S F kvs es ∧ es.length ≤ sizeLine
  | _ => False
def BorR (S : SA) (G F : Hp) (d : D) (v : V) : Prop := Rp S F d v ∨ ∃ a, v = .ref a ∧ OwnR S F G a d
def SlotR (S : SA) (G F H : Hp) (σ : L2.St) (i : Nat) : Sl → Prop
  | .val d => ∃ v, σ[i]? = some (some v) ∧ Rp S F d v
  | .own d => ∃ a, σ[i]? = some (some (.ref a)) ∧ G a = none ∧ a ≠ S.sa ∧ a ≠ S.ca ∧ OwnR S F H a d
  | .bor d => ∃ v, σ[i]? = some (some v) ∧ BorR S G F d v
/-- the law's own state stands and may be turned -/
def StOk (S : SA) (H : Hp) : Prop := S.sa ≠ S.ca ∧ ∃ (n : Nat) (cs : List Int), H S.sa = some (.lst [.int n, .ref S.ca]) ∧ H S.ca = some (.lst (cs.map V.int)) ∧ 0 < cs.length
structure Good (S : SA) (G F : Hp) (σ : L2.St) (H : Hp) (env : DEnv) : Prop where
  kp : Sub G H
  fg : Sub F G
  st : StOk S H
  ns : G S.sa = none
  nc : G S.ca = none
  len : σ.length = env.length
  slot : ∀ (i : Nat) (sl : Sl), env[i]? = some (some sl) → SlotR S G F H σ i sl
  dist : ∀ (i j : Nat) (di dj : D) (a : Addr), env[i]? = some (some (.own di)) → env[j]? = some (some (.own dj)) → σ[i]? = some (some (.ref a)) → σ[j]? = some (some (.ref a)) → i = j
/-- more is kept, more may be read; what may be read now and could not was not kept before -/
structure Ext (G F G' F' : Hp) : Prop where
  g : Sub G G'
  f : Sub F F'
  n : ∀ a, F a = none → G a ≠ none → F' a = none
theorem Ext.refl (G F : Hp) : Ext G F G F := ⟨Sub.refl _, Sub.refl _, fun _ h _ => h⟩
theorem Ext.trans {G F G1 F1 G2 F2 : Hp} (a : Ext G F G1 F1) (b : Ext G1 F1 G2 F2) : Ext G F G2 F2 :=
  ⟨a.g.trans b.g, a.f.trans b.f, fun c h h' => b.n c (a.n c h h') fun z => h' (a.g.no z)⟩

/-- v is d, as it stands: still, or at a name of this frame -/
def RdB (S : SA) (F : Hp) (σ : L2.St) (env : DEnv) (d : D) (v : V) : Prop := Rp S F d v ∨ ∃ i : Nat, (env[i]? = some (some (.own d)) ∨ env[i]? = some (some (.bor d))) ∧ σ[i]? = some (some v)
def FreshR (S : SA) (G F : Hp) (σ : L2.St) (H : Hp) (env : DEnv) (p : Addr) (d : D) : Prop :=
  G p = none ∧ p ≠ S.sa ∧ p ≠ S.ca ∧ (∀ (i : Nat) (di : D), env[i]? = some (some (.own di)) → σ[i]? ≠ some (some (.ref p))) ∧ OwnR S F H p d

def Post (S : SA) (G F : Hp) (σ : L2.St) (env : DEnv) (Q : VK) (d : D) : Prop := ∀ v G' F' H', Ext G F G' F' → Good S G' F' σ H' env → Rp S F' d v → Q v H'
def PostB (S : SA) (G F : Hp) (σ : L2.St) (env : DEnv) (Q : VK) (d : D) : Prop := ∀ v G' F' H', Ext G F G' F' → Good S G' F' σ H' env → RdB S F' σ env d v → Q v H'
def PostF (S : SA) (G F : Hp) (σ : L2.St) (env : DEnv) (Q : VK) (d : D) : Prop := ∀ p G' F' H', Ext G F G' F' → Good S G' F' σ H' env → FreshR S G' F' σ H' env p d → Q (.ref p) H'

abbrev DE := DEnv → M D
def TE_ (S : SA) (m : DE) : TE := fun σ H Q => ∃ G F env, Good S G F σ H env ∧ (m env).wp (Post S G F σ env Q)
def TB_ (S : SA) (m : DE) : TE := fun σ H Q => ∃ G F env, Good S G F σ H env ∧ (m env).wp (PostB S G F σ env Q)
def TF_ (S : SA) (m : DE) : TE := fun σ H Q => ∃ G F env, Good S G F σ H env ∧ (m env).wp (PostF S G F σ env Q)
def QE (S : SA) (X : Cx) (e : Expr) (m : DE) : Prop := PE X e (TE_ S m)
def QB (S : SA) (X : Cx) (e : Expr) (m : DE) : Prop := PE X e (TB_ S m)
def QF (S : SA) (X : Cx) (e : Expr) (m : DE) : Prop := PE X e (TF_ S m)

theorem pe_weak {X : Cx} {e : Expr} {t t' : TE} (h : PE X e t) (w : ∀ σ H Q, t' σ H Q → t σ H Q) : PE X e t' := ⟨fun pins s σ H Q I q => h.run pins s σ H Q I (w σ H Q q)⟩
theorem pt_weak {X : Cx} {e : Expr} {t t' : TT} (h : PT X e t) (w : ∀ σ H Q, t' σ H Q → t σ H Q) : PT X e t' := ⟨fun pins s σ H Q I q => h.run pins s σ H Q I (w σ H Q q)⟩
theorem pa_weak {X : Cx} {es : List Expr} {t t' : TA} (h : PA X es t) (w : ∀ σ H Q, t' σ H Q → t σ H Q) : PA X es t' := ⟨fun pos pins s σ H Q I q => h.run pos pins s σ H Q I (w σ H Q q)⟩
theorem ps_weak {X : Cx} {st : Stmt} {t t' : TS} (h : PS X st t) (w : ∀ D σ H, t' D σ H → t D σ H) : PS X st t' := ⟨fun pins s σ H D I q => h.run pins s σ H D I (w D σ H q)⟩
theorem pss_weak {X : Cx} {st : List Stmt} {t t' : TS} (h : PSs X st t) (w : ∀ D σ H, t' D σ H → t D σ H) : PSs X st t' := ⟨fun pins s σ H D I q => h.run pins s σ H D I (w D σ H q)⟩
theorem pg_weak {X : Cx} {e : Expr} {t t' : TG} (h : PG X e t) (w : ∀ v σ H Q, t' v σ H Q → t v σ H Q) : PG X e t' := ⟨fun pins s σ H v u Q I r q => h.run pins s σ H v u Q I r (w v σ H Q q)⟩
theorem pi_weak {X : Cx} {tg e : Expr} {t t' : TI} (h : PI X tg e t) (w : ∀ σ H R, t' σ H R → t σ H R) : PI X tg e t' := ⟨fun pins s σ H R I q => h.run pins s σ H R I (w σ H R q)⟩

section
variable {S : SA} {G F G' F' H H' : Hp} {σ : L2.St} {env : DEnv} {d : D} {v : V} {p : Addr} {Q : VK}
theorem Good.no (g : Good S G F σ H env) {a : Addr} (h : H a = none) : G a = none := g.kp.no h
theorem Good.fsa (g : Good S G F σ H env) : F S.sa = none := g.fg.no g.ns
theorem Good.fca (g : Good S G F σ H env) : F S.ca = none := g.fg.no g.nc
theorem Good.fh (g : Good S G F σ H env) : Sub F H := g.fg.trans g.kp
/-- a value's object stands in the heap -/
theorem ownR_mono {Ha Hb : Hp} (s : Sub F F') (hp : ∀ o, Ha p = some o → Hb p = some o) : ∀ {d : D}, OwnR S F Ha p d → OwnR S F' Hb p d
  | .lst xs, ⟨vs, h, r, z⟩ => ⟨vs, hp _ h, r.mono s, z⟩
  | .dct false xs, ⟨vs, h, r, z⟩ => ⟨vs, hp _ h, r.mono s, z⟩
  | .dct true xs, ⟨vs, h, r, z⟩ => ⟨vs, hp _ h, r.mono s, z⟩
  | .dcn xs, ⟨vs, h, r, z⟩ => ⟨vs, hp _ h, r.mono s, z⟩
  | .non, h => h.elim
  | .bl _, h => h.elim
  | .int _, h => h.elim
  | .str _, h => h.elim
  | .tup _, h => h.elim
  | .stt, h => h.elim
theorem BorR.mono {G' : Hp} (sg : Sub G G') (s : Sub F F') (h : BorR S G F d v) : BorR S G' F' d v := by
  rcases h with h | ⟨a, e, h⟩
  · exact .inl (h.mono s)
  · exact .inr ⟨a, e, ownR_mono s (fun o z => sg _ _ z) h⟩
theorem ownR_some : ∀ {d : D}, OwnR S F H p d → ∃ o, H p = some o
  | .lst xs, ⟨vs, h, r, z⟩ => ⟨_, h⟩
  | .dct false xs, ⟨vs, h, r, z⟩ => ⟨_, h⟩
  | .dct true xs, ⟨vs, h, r, z⟩ => ⟨_, h⟩
  | .dcn xs, ⟨vs, h, r, z⟩ => ⟨_, h⟩
  | .non, h => h.elim
  | .bl _, h => h.elim
  | .int _, h => h.elim
  | .str _, h => h.elim
  | .tup _, h => h.elim
  | .stt, h => h.elim
theorem ownR_mut : ∀ {d : D}, OwnR S F H p d → d.mut = true
  | .lst xs, _ => rfl
  | .dct false xs, _ => rfl
  | .dct true xs, _ => rfl
  | .dcn xs, _ => rfl
  | .non, h => h.elim
  | .bl _, h => h.elim
  | .int _, h => h.elim
  | .str _, h => h.elim
  | .tup _, h => h.elim
  | .stt, h => h.elim
/-- what stands at p from now on stands still: a list as it is, a dict locked -/
theorem ownR_frz : ∀ {d : D}, F p = none → OwnR S F H p d → (∃ o, H p = some o ∧ Rp S (upd F p o) d (.ref p)) ∨ ∃ u, H p = some u ∧ Mut (some u) ∧ ∀ od, Rp S (upd F p (.frz od u)) d (.ref p)
  | .lst xs, n, ⟨vs, h, r, z⟩ => .inl ⟨_, h, .lst upd_same (r.mono (sub_upd n)) z⟩
  | .dct false xs, n, ⟨vs, h, r, z⟩ => .inr ⟨_, h, trivial, fun od => .dctK upd_same (r.mono (sub_upd n)) z⟩
  | .dct true xs, n, ⟨vs, h, r, z⟩ => .inr ⟨_, h, trivial, fun od => .dctT upd_same (r.mono (sub_upd n)) z⟩
  | .dcn xs, n, ⟨vs, h, r, z⟩ => .inr ⟨_, h, trivial, fun od => .dcn upd_same (r.mono (sub_upd n)) z⟩
  | .non, _, h => h.elim
  | .bl _, _, h => h.elim
  | .int _, _, h => h.elim
  | .str _, _, h => h.elim
  | .tup _, _, h => h.elim
  | .stt, _, h => h.elim
/-- the heap grows by a new object at p (or one that is nobody's), all else stands -/
theorem Good.grow (g : Good S G F σ H env) (hk : Sub H H') : Good S G F σ H' env :=
  ⟨g.kp.trans hk, g.fg, ⟨g.st.1, let ⟨n, cs, h1, h2, h3⟩ := g.st.2; ⟨n, cs, hk _ _ h1, hk _ _ h2, h3⟩⟩, g.ns, g.nc, g.len, fun i sl e => by
    have q := g.slot i sl e
    cases sl with
    | val d => exact q
    | bor d => exact q
    | own d =>
      obtain ⟨a, h1, h2, h3, h4, h5⟩ := q
      exact ⟨a, h1, h2, h3, h4, ownR_mono (Sub.refl _) (fun o z => hk _ _ z) h5⟩, g.dist⟩
/-- .. and is from now on kept and read -/
theorem Good.frz {o : HO} (g : Good S G F σ H env) (hp : H p = some o) (n : G p = none) (n1 : p ≠ S.sa) (n2 : p ≠ S.ca) (hs : ∀ (i : Nat) (di : D), env[i]? = some (some (.own di)) → σ[i]? ≠ some (some (.ref p))) :
    Good S (upd G p o) (upd F p o) σ H env ∧ Ext G F (upd G p o) (upd F p o) := by
  have nf : F p = none := g.fg.no n
  refine ⟨⟨fun a u e => ?_, fun a u e => ?_, g.st, ?_, ?_, g.len, fun i sl e => ?_, g.dist⟩, ⟨sub_upd n, sub_upd nf, fun a h h' => ?_⟩⟩
  · by_cases z : a = p
    · subst z; rw [upd_same] at e; cases e; exact hp
    · rw [upd_ne z] at e; exact g.kp a u e
  · by_cases z : a = p
    · subst z; rw [upd_same] at e ⊢; exact e
    · rw [upd_ne z] at e ⊢; exact g.fg a u e
  · rw [upd_ne n1.symm]; exact g.ns
  · rw [upd_ne n2.symm]; exact g.nc
  · have q := g.slot i sl e
    cases sl with
    | val d =>
      obtain ⟨v, h1, h2⟩ := q
      exact ⟨v, h1, h2.mono (sub_upd nf)⟩
    | bor d =>
      obtain ⟨v, h1, h2⟩ := q
      exact ⟨v, h1, h2.mono (sub_upd n) (sub_upd nf)⟩
    | own d =>
      obtain ⟨a, h1, h2, h3, h4, h5⟩ := q
      have na : a ≠ p := fun z => hs i d e (by rw [h1, z])
      exact ⟨a, h1, by rw [upd_ne na]; exact h2, h3, h4, ownR_mono (sub_upd nf) (fun o z => z) h5⟩
  · have na : a ≠ p := fun z => h' (by rw [z]; exact n)
    rw [upd_ne na]; exact h
/-- the object at p, that is nobody's, is another one from now on -/
theorem Good.swap {o : HO} (g : Good S G F σ H env) (n : G p = none) (n1 : p ≠ S.sa) (n2 : p ≠ S.ca) (hs : ∀ (i : Nat) (di : D), env[i]? = some (some (.own di)) → σ[i]? ≠ some (some (.ref p))) : Good S G F σ (upd H p o) env := by
  refine ⟨fun a u e => ?_, g.fg, ⟨g.st.1, ?_⟩, g.ns, g.nc, g.len, fun i sl e => ?_, g.dist⟩
  · have na : a ≠ p := fun z => by rw [z, n] at e; cases e
    rw [upd_ne na]; exact g.kp a u e
  · obtain ⟨_, k, cs, h1, h2, h3⟩ := g.st
    exact ⟨k, cs, by rw [upd_ne n1.symm]; exact h1, by rw [upd_ne n2.symm]; exact h2, h3⟩
  · have q := g.slot i sl e
    cases sl with
    | val d => exact q
    | bor d => exact q
    | own d =>
      obtain ⟨a, h1, h2, h3, h4, h5⟩ := q
      have na : a ≠ p := fun z => hs i d e (by rw [h1, z])
      exact ⟨a, h1, h2, h3, h4, ownR_mono (Sub.refl _) (fun o z => by rw [upd_ne na]; exact z) h5⟩
/-- what a fresh object's freezing leaves: the heap as it is, or with the object locked -/
def Lk (p : Addr) (H : Hp) (R : Hp → Prop) : Prop := R H ∨ ∃ u, H p = some u ∧ Mut (some u) ∧ ∀ od, R (upd H p (.frz od u))
theorem Good.frz_own (g : Good S G F σ H env) (f : FreshR S G F σ H env p d) : Lk p H fun H' => ∃ G' F', Ext G F G' F' ∧ Good S G' F' σ H' env ∧ Rp S F' d (.ref p) := by
  obtain ⟨n, n1, n2, hs, ow⟩ := f
  rcases ownR_frz (g.fg.no n) ow with ⟨o, ho, r⟩ | ⟨u, hu, mu, r⟩
  · obtain ⟨g', e⟩ := g.frz ho n n1 n2 hs
    exact .inl ⟨_, _, e, g', r⟩
  · refine .inr ⟨u, hu, mu, fun od => ?_⟩
    obtain ⟨g', e⟩ := (g.swap (o := .frz od u) n n1 n2 hs).frz upd_same n n1 n2 hs
    exact ⟨_, _, e, g', r od⟩
/-- the wish behind, where a new object may be locked first -/
def LkQ (Q : VK) : VK := fun v H => (∃ p, v = .ref p ∧ Lk p H (Q (.ref p))) ∨ Q v H
theorem post_fresh (h : Post S G F σ env Q d) : PostF S G F σ env (LkQ Q) d := fun p G' F' H' e g f => by
  refine .inl ⟨p, rfl, ?_⟩
  rcases g.frz_own f with ⟨G2, F2, e2, g2, r⟩ | ⟨u, hu, mu, k⟩
  · exact .inl (h _ G2 F2 H' (e.trans e2) g2 r)
  · refine .inr ⟨u, hu, mu, fun od => ?_⟩
    obtain ⟨G2, F2, e2, g2, r⟩ := k od
    exact h _ G2 F2 _ (e.trans e2) g2 r
/-- a list needs no lock -/
theorem post_freshL {xs : List D} (h : Post S G F σ env Q (.lst xs)) : PostF S G F σ env Q (.lst xs) := fun p G' F' H' e g f => by
  obtain ⟨n, n1, n2, hs, vs, hp, r, z⟩ := f
  obtain ⟨g', e'⟩ := g.frz hp n n1 n2 hs
  exact h _ _ _ H' (e.trans e') g' (.lst upd_same (r.mono (sub_upd (g.fg.no n))) z)
theorem post_b (h : PostB S G F σ env Q d) : Post S G F σ env Q d := fun v G' F' H' e g r => h v G' F' H' e g (.inl r)
theorem pe_lockQ {X : Cx} {e : Expr} {t : TE} (h : PE X e t) : PE X e (fun σ H Q => t σ H (LkQ Q)) := ⟨fun pins s σ H Q I q => by
  refine thn (h.run pins s σ H _ I q) fun v s' ⟨x, H', I', r, q'⟩ => ?_
  rcases q' with ⟨p, rfl, q' | ⟨u, hu, mu, q'⟩⟩ | q'
  · exact ⟨_, H', I', r, q'⟩
  · obtain ⟨od, I2⟩ := I'.lock hu mu
    exact ⟨_, _, I2, r, q' od⟩
  · exact ⟨x, H', I', r, q'⟩⟩
theorem QF.e {X : Cx} {e : Expr} {m : DE} (h : QF S X e m) : QE S X e m := pe_weak (pe_lockQ h) fun σ H Q ⟨G, F, env, g, q⟩ => ⟨G, F, env, g, M.wp_mono q fun _ => post_fresh⟩
theorem QE.b {X : Cx} {e : Expr} {m : DE} (h : QE S X e m) : QB S X e m := pe_weak h fun σ H Q ⟨G, F, env, g, q⟩ => ⟨G, F, env, g, M.wp_mono q fun _ => post_b⟩
theorem QF.b {X : Cx} {e : Expr} {m : DE} (h : QF S X e m) : QB S X e m := h.e.b
theorem RdB.mono (s : Sub F F') (h : RdB S F σ env d v) : RdB S F' σ env d v := by
  rcases h with h | h
  · exact .inl (h.mono s)
  · exact .inr h
theorem RdB.elim (g : Good S G F σ H env) (h : RdB S F σ env d v) : Rp S F d v ∨ ∃ a, v = .ref a ∧ OwnR S F H a d := by
  rcases h with h | ⟨i, h1 | h1, h2⟩
  · exact .inl h
  · obtain ⟨a, h3, _, _, _, h4⟩ := g.slot i _ h1
    rw [h2] at h3
    cases h3
    exact .inr ⟨_, rfl, h4⟩
  · obtain ⟨u, h3, h4⟩ := g.slot i _ h1
    rw [h2] at h3
    cases h3
    rcases h4 with h4 | ⟨a, e, h4⟩
    · exact .inl h4
    · exact .inr ⟨a, e, ownR_mono (Sub.refl _) (fun o z => g.kp _ _ z) h4⟩
/-- what is read as a list -/
theorem RdB.lst {xs : List D} (g : Good S G F σ H env) (h : RdB S F σ env (.lst xs) v) : ∃ p vs, v = .ref p ∧ H p = some (.lst vs) ∧ RpL S F xs vs ∧ vs.length ≤ sizeLine := by
  rcases h.elim g with h | ⟨a, rfl, vs, h4, h5, h6⟩
  · cases h with
    | lst h1 h2 h3 => exact ⟨_, _, rfl, g.fh _ _ h1, h2, h3⟩
  · exact ⟨_, vs, rfl, h4, h5, h6⟩
theorem RdB.rp (g : Good S G F σ H env) (h : RdB S F σ env d v) (hd : d.mut = false) : Rp S F d v := by
  rcases h.elim g with h | ⟨a, _, h4⟩
  · exact h
  · rw [ownR_mut h4] at hd; cases hd
theorem Rp.tupI {a : Addr} {xs : List D} (h : Rp S F (.tup xs) (.ref a)) : ∃ vs, F a = some (.tup vs) ∧ RpL S F xs vs ∧ vs.length ≤ sizeLine := by
  cases h with
  | tup h1 h2 h3 => exact ⟨_, h1, h2, h3⟩
end
end DL

set_option Elab.async false
set_option linter.all false
set_option maxRecDepth 100000
/-! DL2: expressions by trees. -/
namespace DL
open PySem PySem.Spec L2
open PyProof.Rows hiding St

section
variable {S : SA} {X : Cx} {G F G' F' H H' : Hp} {σ : L2.St} {env : DEnv} {d : D} {v : V} {p : Addr} {Q : VK} {m ma mb mc : DE} {a b c e : Expr} {pos : Pos}
theorem post_shift {G1 F1 : Hp} (x : Ext G F G1 F1) (h : Post S G F σ env Q d) : Post S G1 F1 σ env Q d := fun v G' F' H' e g r => h v G' F' H' (x.trans e) g r
theorem postF_shift {G1 F1 : Hp} (x : Ext G F G1 F1) (h : PostF S G F σ env Q d) : PostF S G1 F1 σ env Q d := fun v G' F' H' e g r => h v G' F' H' (x.trans e) g r
theorem postB_shift {G1 F1 : Hp} (x : Ext G F G1 F1) (h : PostB S G F σ env Q d) : PostB S G1 F1 σ env Q d := fun v G' F' H' e g r => h v G' F' H' (x.trans e) g r
/-- the value at once -/
theorem Post.now (h : Post S G F σ env Q d) (g : Good S G F σ H env) (r : Rp S F d v) : Q v H := h v G F H (Ext.refl _ _) g r
theorem PostB.now (h : PostB S G F σ env Q d) (g : Good S G F σ H env) (r : RdB S F σ env d v) : Q v H := h v G F H (Ext.refl _ _) g r
/-- a new object at p -/
theorem Good.new (g : Good S G F σ H env) (hp : H p = none) (o : HO) : Good S G F σ (upd H p o) env := g.grow (sub_upd hp)
theorem Good.stNe (g : Good S G F σ H env) (hp : H p = none) : p ≠ S.sa ∧ p ≠ S.ca := by
  obtain ⟨_, n, cs, h1, h2, _⟩ := g.st
  refine ⟨fun z => ?_, fun z => ?_⟩
  · rw [z, h1] at hp; cases hp
  · rw [z, h2] at hp; cases hp
theorem Good.ownNe (g : Good S G F σ H env) (hp : H p = none) : ∀ (i : Nat) (di : D), env[i]? = some (some (.own di)) → σ[i]? ≠ some (some (.ref p)) := fun i di e z => by
  obtain ⟨a, h1, _, _, _, h5⟩ := g.slot i _ e
  obtain ⟨o, h6⟩ := ownR_some h5
  rw [z] at h1
  cases h1
  rw [h6] at hp; cases hp
theorem Good.fresh_lst (g : Good S G F σ H env) (hp : H p = none) {xs : List D} {vs : List V} (r : RpL S F xs vs) (z : vs.length ≤ sizeLine) : FreshR S G F σ (upd H p (.lst vs)) env p (.lst xs) :=
  ⟨g.kp.no hp, (g.stNe hp).1, (g.stNe hp).2, g.ownNe hp, vs, upd_same, r, z⟩
theorem PostF.lst (h : PostF S G F σ env Q (.lst xs)) (g : Good S G F σ H env) (hp : H p = none) {vs : List V} (r : RpL S F xs vs) (z : vs.length ≤ sizeLine) : Q (.ref p) (upd H p (.lst vs)) :=
  h p G F _ (Ext.refl _ _) (g.new hp _) (g.fresh_lst hp r z)
theorem Post.lst (h : Post S G F σ env Q (.lst xs)) (g : Good S G F σ H env) (hp : H p = none) {vs : List V} (r : RpL S F xs vs) (z : vs.length ≤ sizeLine) : Q (.ref p) (upd H p (.lst vs)) :=
  (post_freshL h).lst g hp r z
theorem Post.tup (h : Post S G F σ env Q (.tup xs)) (g : Good S G F σ H env) (hp : H p = none) {vs : List V} (r : RpL S F xs vs) (z : vs.length ≤ sizeLine) : Q (.ref p) (upd H p (.tup vs)) := by
  have n := g.kp.no hp
  obtain ⟨g', x⟩ := (g.new hp (.tup vs)).frz upd_same n (g.stNe hp).1 (g.stNe hp).2 (g.ownNe hp)
  exact h _ _ _ _ x g' (.tup upd_same (r.mono (sub_upd (g.fg.no n))) z)

/-! ### names, constants -/
def mVar (i : Nat) : DE := fun env => match env[i]? with
  | some (some (.val d)) => .ret d
  | some (some (.bor d)) => if d.mut then .fail else .ret d
  | _ => .fail
def mVarB (i : Nat) : DE := fun env => match env[i]? with
  | some (some (.val d)) => .ret d
  | some (some (.own d)) => .ret d
  | some (some (.bor d)) => .ret d
  | _ => .fail
def mC (d : D) : DE := fun _ => .ret d
theorem mVar_wp {i : Nat} {P : D → Prop} (h : (mVar i env).wp P) : ∃ d, (env[i]? = some (some (.val d)) ∨ (env[i]? = some (some (.bor d)) ∧ d.mut = false)) ∧ P d := by
  unfold mVar at h
  split at h
  · exact ⟨_, .inl (by assumption), h⟩
  · split at h
    · exact h.elim
    · rename_i hm; exact ⟨_, .inr ⟨by assumption, by simpa using hm⟩, h⟩
  · exact h.elim
theorem mVarB_wp {i : Nat} {P : D → Prop} (h : (mVarB i env).wp P) : ∃ d, (env[i]? = some (some (.val d)) ∨ env[i]? = some (some (.own d)) ∨ env[i]? = some (some (.bor d))) ∧ P d := by
  unfold mVarB at h
  split at h
  · exact ⟨_, .inl (by assumption), h⟩
  · exact ⟨_, .inr (.inl (by assumption)), h⟩
  · exact ⟨_, .inr (.inr (by assumption)), h⟩
  · exact h.elim
theorem qv (i : Nat) {x : Str} (hN : X.N[i]? = some x := by rfl) (hv : Vis X.env.scope x := by first | exact Or.inl rfl | exact Or.inr (Or.inl rfl) | exact Or.inr (Or.inr rfl)) (hd : (x == ("__debug__" : Str)) = false := by decide)
    (hcd : (x == ("__classdict__" : Str)) = false := by decide) : QE S X (.Name x pos) (mVar i) := pe_weak (pe_var hN hv hd hcd) fun σ H Q ⟨G, F, env, g, q⟩ => by
  obtain ⟨d, e | ⟨e, hm⟩, q⟩ := mVar_wp q
  · obtain ⟨v, h1, h2⟩ := g.slot i _ e
    exact ⟨v, h1, q.now g h2⟩
  · obtain ⟨v, h1, h2⟩ := g.slot i _ e
    exact ⟨v, h1, q.now g (RdB.rp g (.inr ⟨i, .inr e, h1⟩) hm)⟩
theorem qvb (i : Nat) {x : Str} (hN : X.N[i]? = some x := by rfl) (hv : Vis X.env.scope x := by first | exact Or.inl rfl | exact Or.inr (Or.inl rfl) | exact Or.inr (Or.inr rfl)) (hd : (x == ("__debug__" : Str)) = false := by decide)
    (hcd : (x == ("__classdict__" : Str)) = false := by decide) : QB S X (.Name x pos) (mVarB i) := pe_weak (pe_var hN hv hd hcd) fun σ H Q ⟨G, F, env, g, q⟩ => by
  obtain ⟨d, e | e | e, q⟩ := mVarB_wp q
  · obtain ⟨v, h1, h2⟩ := g.slot i _ e
    exact ⟨v, h1, q.now g (.inl h2)⟩
  · obtain ⟨a, h1, _⟩ := g.slot i _ e
    exact ⟨.ref a, h1, q.now g (.inr ⟨i, .inl e, h1⟩)⟩
  · obtain ⟨v, h1, _⟩ := g.slot i _ e
    exact ⟨v, h1, q.now g (.inr ⟨i, .inr e, h1⟩)⟩
theorem qint {i j} : QE S X (.Constant (.int i) j pos) (mC (.int i)) := pe_weak pe_int fun σ H Q ⟨G, F, env, g, q⟩ => Post.now q g (.int i)
theorem qbl {b j} : QE S X (.Constant (.bool b) j pos) (mC (.bl b)) := pe_weak pe_bl fun σ H Q ⟨G, F, env, g, q⟩ => Post.now q g (.bl b)
theorem qnon {j} : QE S X (.Constant .none j pos) (mC .non) := pe_weak pe_non fun σ H Q ⟨G, F, env, g, q⟩ => Post.now q g .non
theorem qstr {x : Str} {j} (y : Str) (e : x = y := by rfl) (h : PyData.strOk y = true := by decide +kernel) (z : y.length ≤ sizeLine := by decide +kernel) : QE S X (.Constant (.str x) j pos) (mC (.str y)) := by
  subst e
  exact pe_weak pe_str fun σ H Q ⟨G, F, env, g, q⟩ => Post.now q g (.str _ h z)

/-! ### operators by trees -/
def OpD (S : SA) (X : Cx) (f : Value → Value → Sem Value) (op : D → D → M D) : Prop := ∃ r : R2, OpR X f r ∧ ∀ (G F : Hp) (σ : L2.St) (H : Hp) (env : DEnv) (x y : V) (d e : D) (Q : VK),
  Good S G F σ H env → RdB S F σ env d x → RdB S F σ env e y → (op d e).wp (Post S G F σ env Q) → r x y H Q
def OpF (S : SA) (X : Cx) (f : Value → Value → Sem Value) (op : D → D → M D) : Prop := ∃ r : R2, OpR X f r ∧ ∀ (G F : Hp) (σ : L2.St) (H : Hp) (env : DEnv) (x y : V) (d e : D) (Q : VK),
  Good S G F σ H env → RdB S F σ env d x → RdB S F σ env e y → (op d e).wp (PostF S G F σ env Q) → r x y H Q
def mBin (op : D → D → M D) (ma mb : DE) : DE := fun env => ma env >>= fun x => mb env >>= fun y => op x y
/-- two parts, one behind the other -/
theorem two (ma mb : DE) {R : V → V → Hp → Prop} {op : D → D → M D} {PP : Hp → Hp → D → Prop}
    (g : Good S G F σ H env) (q : (mBin op ma mb env).wp (PP G F)) (sh : ∀ G F G1 F1 d, Ext G F G1 F1 → PP G F d → PP G1 F1 d)
    (k : ∀ G F H x y d e, Good S G F σ H env → RdB S F σ env d x → RdB S F σ env e y → (op d e).wp (PP G F) → R x y H) :
    TB_ S ma σ H fun x H1 => TB_ S mb σ H1 fun y H2 => R x y H2 :=
  ⟨G, F, env, g, M.wp_mono (M.wpb q) fun d q v G1 F1 H1 e1 g1 r1 => ⟨G1, F1, env, g1, M.wp_mono (M.wpb q) fun d2 q v2 G2 F2 H2 e2 g2 r2 =>
    k G2 F2 H2 v v2 d d2 g2 (r1.mono e2.f) r2 (M.wp_mono q fun d3 => sh _ _ _ _ d3 (e1.trans e2))⟩⟩
theorem qbin {o : Operator} {op : D → D → M D} (ho : OpD S X (binaryOp o) op) (ha : QB S X a ma) (hb : QB S X b mb) : QE S X (.BinOp a o b pos) (mBin op ma mb) := by
  obtain ⟨r, hr, k⟩ := ho
  exact pe_weak (pe_op hr ha hb) fun σ H Q ⟨G, F, env, g, q⟩ => two ma mb (PP := fun G F => Post S G F σ env Q) g q (fun _ _ _ _ _ => post_shift) fun G F H x y d e g r1 r2 q => k G F σ H env x y d e Q g r1 r2 q
theorem qbinF {o : Operator} {op : D → D → M D} (ho : OpF S X (binaryOp o) op) (ha : QB S X a ma) (hb : QB S X b mb) : QF S X (.BinOp a o b pos) (mBin op ma mb) := by
  obtain ⟨r, hr, k⟩ := ho
  exact pe_weak (pe_op hr ha hb) fun σ H Q ⟨G, F, env, g, q⟩ => two ma mb (PP := fun G F => PostF S G F σ env Q) g q (fun _ _ _ _ _ => postF_shift) fun G F H x y d e g r1 r2 q => k G F σ H env x y d e Q g r1 r2 q

/-! ints -/
def dI2 (C : Int → Int → Bool) (f : Int → Int → D) : D → D → M D
  | .int i, .int j => if C i j then .ret (f i j) else .fail
  | _, _ => .fail
theorem RdB.int {i : Int} (g : Good S G F σ H env) (h : RdB S F σ env (.int i) v) : v = .int i := by
  cases h.rp g rfl
  rfl
theorem RdB.str {x : Str} (g : Good S G F σ H env) (h : RdB S F σ env (.str x) v) : v = .str x ∧ PyData.strOk x = true ∧ x.length ≤ sizeLine := by
  cases h.rp g rfl
  exact ⟨rfl, by assumption, by assumption⟩
theorem RdB.bl {b : Bool} (g : Good S G F σ H env) (h : RdB S F σ env (.bl b) v) : v = .bl b := by
  cases h.rp g rfl
  rfl
theorem RdB.non (g : Good S G F σ H env) (h : RdB S F σ env .non v) : v = .non := by
  cases h.rp g rfl
  rfl
theorem RdB.tup {xs : List D} (g : Good S G F σ H env) (h : RdB S F σ env (.tup xs) v) : ∃ p vs, v = .ref p ∧ F p = some (.tup vs) ∧ H p = some (.tup vs) ∧ RpL S F xs vs ∧ vs.length ≤ sizeLine := by
  cases h.rp g rfl
  exact ⟨_, _, rfl, by assumption, g.fh _ _ (by assumption), by assumption, by assumption⟩
theorem RdB.rpl {xs : List D} (g : Good S G F σ H env) (h : RdB S F σ env (.tup xs) v) : Rp S F (.tup xs) v := h.rp g rfl
theorem opD_I {f : Value → Value → Sem Value} {C : Int → Int → Prop} {C' : Int → Int → Bool} {gi : Int → Int → Int} (h : OpR X f (rI C fun i j => .int (gi i j))) (hc : ∀ i j, C' i j = true → C i j) : OpD S X f (dI2 C' fun i j => .int (gi i j)) :=
  ⟨_, h, fun G F σ H env x y d e Q g r1 r2 q => by
    cases d with
    | int i =>
      cases e with
      | int j =>
        unfold dI2 at q
        simp only at q
        split at q
        · obtain rfl := r1.int g
          obtain rfl := r2.int g
          exact ⟨i, j, rfl, rfl, hc i j (by assumption), Post.now q g (.int _)⟩
        · exact q.elim
      | _ => exact q.elim
    | _ => exact q.elim⟩
theorem opD_I0 {f : Value → Value → Sem Value} {gi : Int → Int → Int} (h : OpR X f (rI0 fun i j => .int (gi i j))) : OpD S X f (dI2 (fun _ _ => true) fun i j => .int (gi i j)) :=
  ⟨_, h, fun G F σ H env x y d e Q g r1 r2 q => by
    cases d with
    | int i =>
      cases e with
      | int j =>
        obtain rfl := r1.int g
        obtain rfl := r2.int g
        exact ⟨i, j, rfl, rfl, Post.now q g (.int _)⟩
      | _ => exact q.elim
    | _ => exact q.elim⟩
def small64 (i : Int) : Bool := decide (-(2 ^ 64) < i) && decide (i < 2 ^ 64)
def dSub : D → D → M D := dI2 (fun _ _ => true) fun i j => .int (i - j)
def dMul : D → D → M D := dI2 (fun i j => small64 i || small64 j) fun i j => .int (i * j)
def dFdiv : D → D → M D := dI2 (fun _ j => decide (0 < j) && decide (j < 2 ^ 30)) fun i j => .int (i / j)
def dMod : D → D → M D := dI2 (fun _ j => decide (0 < j)) fun i j => .int (i % j)
def dPow : D → D → M D := dI2 (fun i j => decide (0 ≤ j) && (decide (j ≤ 1000000) && decide (i.natAbs < 2 ^ 64))) fun i j => .int (i ^ j.toNat)
def dShl : D → D → M D := dI2 (fun i j => decide (0 ≤ j) && (decide (j ≤ 1000000) && decide (i.natAbs < 2 ^ 64))) fun i j => .int (i * 2 ^ j.toNat)
theorem o_sub : OpD S X (binaryOp .Sub) dSub := opD_I0 op_sub
theorem o_mul : OpD S X (binaryOp .Mult) dMul := opD_I op_mul fun i j h => by
  simp only [small64, Bool.or_eq_true, Bool.and_eq_true, decide_eq_true_eq] at h
  rcases h with h | h
  · exact .inl h
  · exact .inr h
theorem o_mod : OpD S X (binaryOp .Mod) dMod := opD_I op_mod fun i j h => of_decide_eq_true h
theorem o_pow : OpD S X (binaryOp .Pow) dPow := opD_I op_pow fun i j h => by
  simp only [Bool.and_eq_true, decide_eq_true_eq] at h
  exact h
theorem o_shl : OpD S X (binaryOp .LShift) dShl := opD_I op_shl fun i j h => by
  simp only [Bool.and_eq_true, decide_eq_true_eq] at h
  exact h
/-! + of ints, texts, tuples, lists -/
theorem opR_or {f : Value → Value → Sem Value} {r r' : R2} (h : OpR X f r) (h' : OpR X f r') : OpR X f (fun x y H Q => r x y H Q ∨ r' x y H Q) := by
  intro pins s σ H x y v u Q I rx ry q
  rcases q with q | q
  · exact h pins s σ H x y v u Q I rx ry q
  · exact h' pins s σ H x y v u Q I rx ry q
def dAdd : D → D → M D
  | .int i, .int j => .ret (.int (i + j))
  | .str x, .str y => if x.length + y.length ≤ sizeLine then .ret (.str (x ++ y)) else .fail
  | .tup xs, .tup ys => if xs.length + ys.length ≤ sizeLine then .ret (.tup (xs ++ ys)) else .fail
  | .lst xs, .lst ys => if xs.length + ys.length ≤ sizeLine then .ret (.lst (xs ++ ys)) else .fail
  | _, _ => .fail
def dCat : D → D → M D
  | .lst xs, .lst ys => if xs.length + ys.length ≤ sizeLine then .ret (.lst (xs ++ ys)) else .fail
  | _, _ => .fail
end
end DL

set_option Elab.async false
set_option linter.all false
set_option maxRecDepth 100000
/-! DL3: +, comparisons, in, tests, displays, subscripts, slices. -/
namespace DL
open PySem PySem.Spec L2
open PyProof.Rows hiding St

theorem strOk_append {x y : Str} (hx : PyData.strOk x = true) (hy : PyData.strOk y = true) : PyData.strOk (x ++ y) = true := by
  unfold PyData.strOk at *
  show (x.cps ++ y.cps).all _ = true
  rw [Array.all_append, hx, hy]; rfl

/-! ### plain trees: no dicts, no truth values, not deep -/
mutual
def D.pl : Nat → D → Bool
  | _, .non => true
  | _, .int _ => true
  | _, .str _ => true
  | n, .tup xs => match n with
    | 0 => false
    | k + 1 => D.plL k xs
  | n, .lst xs => match n with
    | 0 => false
    | k + 1 => D.plL k xs
  | _, .bl _ => false
  | _, .dct _ _ => false
  | _, .dcn _ => false
  | _, .stt => false
def D.plL : Nat → List D → Bool
  | _, [] => true
  | n, x :: xs => D.pl n x && D.plL n xs
end
mutual
def D.beq : D → D → Bool
  | .non, d => match d with
    | .non => true
    | _ => false
  | .bl a, d => match d with
    | .bl b => a == b
    | _ => false
  | .int a, d => match d with
    | .int b => decide (a = b)
    | _ => false
  | .str a, d => match d with
    | .str b => decide (a = b)
    | _ => false
  | .tup xs, d => match d with
    | .tup ys => D.beqL xs ys
    | _ => false
  | .lst xs, d => match d with
    | .lst ys => D.beqL xs ys
    | _ => false
  | .dct _ _, _ => false
  | .dcn _, _ => false
  | .stt, _ => false
def D.beqL : List D → List D → Bool
  | [], ds => match ds with
    | [] => true
    | _ :: _ => false
  | x :: xs, ds => match ds with
    | [] => false
    | y :: ys => D.beq x y && D.beqL xs ys
end
mutual
def D.py : D → PyData
  | .non => .none
  | .bl b => .bool b
  | .int i => .int i
  | .str x => .str x
  | .tup xs => .tuple (D.pyL xs)
  | .lst xs => .list (D.pyL xs)
  | .dct _ _ => .none
  | .dcn _ => .none
  | .stt => .none
def D.pyL : List D → List PyData
  | [] => []
  | x :: xs => D.py x :: D.pyL xs
end
mutual
theorem D.beq_eq : ∀ (n : Nat) (d e : D), d.pl n = true → (D.beq d e = true ↔ d = e)
  | n, .non, e, _ => by cases e <;> simp [D.beq]
  | n, .int i, e, _ => by cases e <;> simp [D.beq]
  | n, .str i, e, _ => by cases e <;> simp [D.beq]
  | n, .bl i, e, h => by simp [D.pl] at h
  | n, .dct _ i, e, h => by simp [D.pl] at h
  | n, .dcn i, e, h => by simp [D.pl] at h
  | n, .stt, e, h => by simp [D.pl] at h
  | 0, .tup xs, e, h => by simp [D.pl] at h
  | 0, .lst xs, e, h => by simp [D.pl] at h
  | n + 1, .tup xs, e, h => by
    cases e with
    | tup ys => simp only [D.beq, D.tup.injEq]; exact D.beqL_eq n xs ys (by simpa [D.pl] using h)
    | _ => simp [D.beq]
  | n + 1, .lst xs, e, h => by
    cases e with
    | lst ys => simp only [D.beq, D.lst.injEq]; exact D.beqL_eq n xs ys (by simpa [D.pl] using h)
    | _ => simp [D.beq]
theorem D.beqL_eq : ∀ (n : Nat) (d e : List D), D.plL n d = true → (D.beqL d e = true ↔ d = e)
  | n, [], e, _ => by cases e <;> simp [D.beqL]
  | n, x :: xs, e, h => by
    simp only [D.plL, Bool.and_eq_true] at h
    cases e with
    | nil => simp [D.beqL]
    | cons y ys => simp only [D.beqL, Bool.and_eq_true, List.cons.injEq, D.beq_eq n x y h.1, D.beqL_eq n xs ys h.2]
end
mutual
theorem D.eqv_beq : ∀ (n : Nat) (d e : D), d.pl n = true → e.pl n = true → PyData.eqv d.py e.py = D.beq d e
  | n, .non, e, _, h => by cases e <;> simp [D.beq, D.py, PyData.eqv] <;> simp [D.pl] at h
  | n, .int i, e, _, h => by cases e <;> simp [D.beq, D.py, PyData.eqv] <;> simp [D.pl] at h <;> rfl
  | n, .str i, e, _, h => by cases e <;> simp [D.beq, D.py, PyData.eqv] <;> simp [D.pl] at h <;> rfl
  | n, .bl i, e, h, _ => by simp [D.pl] at h
  | n, .dct _ i, e, h, _ => by simp [D.pl] at h
  | n, .dcn i, e, h, _ => by simp [D.pl] at h
  | n, .stt, e, h, _ => by simp [D.pl] at h
  | 0, .tup xs, e, h, _ => by simp [D.pl] at h
  | 0, .lst xs, e, h, _ => by simp [D.pl] at h
  | n + 1, .tup xs, e, h, h' => by
    cases e with
    | tup ys => simp only [D.beq, D.py, PyData.eqv]; exact D.eqvL_beq n xs ys (by simpa [D.pl] using h) (by simpa [D.pl] using h')
    | _ => first | (simp [D.pl] at h'; done) | simp [D.beq, D.py, PyData.eqv]
  | n + 1, .lst xs, e, h, h' => by
    cases e with
    | lst ys => simp only [D.beq, D.py, PyData.eqv]; exact D.eqvL_beq n xs ys (by simpa [D.pl] using h) (by simpa [D.pl] using h')
    | _ => first | (simp [D.pl] at h'; done) | simp [D.beq, D.py, PyData.eqv]
theorem D.eqvL_beq : ∀ (n : Nat) (d e : List D), D.plL n d = true → D.plL n e = true → PyData.eqvAll (D.pyL d) (D.pyL e) = D.beqL d e
  | n, [], e, _, _ => by cases e <;> simp [D.beqL, D.pyL, PyData.eqvAll]
  | n, x :: xs, e, h, h' => by
    simp only [D.plL, Bool.and_eq_true] at h
    cases e with
    | nil => simp [D.beqL, D.pyL, PyData.eqvAll]
    | cons y ys =>
      simp only [D.plL, Bool.and_eq_true] at h'
      simp only [D.beqL, D.pyL, PyData.eqvAll, D.eqv_beq n x y h.1 h'.1, D.eqvL_beq n xs ys h.2 h'.2]
end
mutual
theorem D.dep : ∀ (n : Nat) (d : D), d.pl n = true → d.py.depth ≤ n
  | n, .non, _ => by simp [D.py, PyData.depth]
  | n, .int i, _ => by simp [D.py, PyData.depth]
  | n, .str i, _ => by simp [D.py, PyData.depth]
  | n, .bl i, h => by simp [D.pl] at h
  | n, .dct _ i, h => by simp [D.pl] at h
  | n, .dcn i, h => by simp [D.pl] at h
  | n, .stt, h => by simp [D.pl] at h
  | 0, .tup xs, h => by simp [D.pl] at h
  | 0, .lst xs, h => by simp [D.pl] at h
  | n + 1, .tup xs, h => by simp only [D.py, PyData.depth]; exact Nat.succ_le_succ (D.depL n xs (by simpa [D.pl] using h))
  | n + 1, .lst xs, h => by simp only [D.py, PyData.depth]; exact Nat.succ_le_succ (D.depL n xs (by simpa [D.pl] using h))
theorem D.depL : ∀ (n : Nat) (d : List D), D.plL n d = true → PyData.depthAll (D.pyL d) ≤ n
  | n, [], _ => by simp [D.pyL, PyData.depthAll]
  | n, x :: xs, h => by
    simp only [D.plL, Bool.and_eq_true] at h
    simp only [D.pyL, PyData.depthAll]
    exact Nat.max_le.mpr ⟨D.dep n x h.1, D.depL n xs h.2⟩
end
section
variable {S : SA} {K : PySem.W.Frag} {F H : Hp}
mutual
theorem Rp.dp (s : Sub F H) : ∀ (n : Nat) (d : D) {v : V}, d.pl n = true → Rp S F d v → Dp K H v d.py ∧ PyData.canLay0 d.py = true
  | n, .non, _, _, r => by cases r; exact ⟨.non, by simp [D.py, PyData.canLay0]⟩
  | n, .bl b, _, h, _ => by simp [D.pl] at h
  | n, .dct _ b, _, h, _ => by simp [D.pl] at h
  | n, .dcn b, _, h, _ => by simp [D.pl] at h
  | n, .stt, _, h, _ => by simp [D.pl] at h
  | n, .int i, _, _, r => by cases r; exact ⟨.int i, by simp [D.py, PyData.canLay0]⟩
  | n, .str x, _, _, r => by
    cases r with
    | str x h _ => exact ⟨.str x, by simp only [D.py, PyData.canLay0]; exact h⟩
  | 0, .tup xs, _, h, _ => by simp [D.pl] at h
  | 0, .lst xs, _, h, _ => by simp [D.pl] at h
  | n + 1, .tup xs, _, h, r => by
    cases r with
    | tup h1 r _ =>
      obtain ⟨q1, q2⟩ := RpL.dp s n xs (by simpa [D.pl] using h) r
      simp only [D.py, PyData.canLay0]
      exact ⟨.tup (.of (s _ _ h1)) q1, q2⟩
  | n + 1, .lst xs, _, h, r => by
    cases r with
    | lst h1 r _ =>
      obtain ⟨q1, q2⟩ := RpL.dp s n xs (by simpa [D.pl] using h) r
      simp only [D.py, PyData.canLay0]
      exact ⟨.lst (.of (s _ _ h1)) q1, q2⟩
theorem RpL.dp (s : Sub F H) : ∀ (n : Nat) (ds : List D) {vs : List V}, D.plL n ds = true → RpL S F ds vs → DpAll K H vs (D.pyL ds) ∧ PyData.canLayAll0 (D.pyL ds) = true
  | n, [], _, _, r => by cases r; exact ⟨.nil, by simp [D.pyL, PyData.canLayAll0]⟩
  | n, x :: xs, _, h, r => by
    cases r with
    | cons r t =>
      simp only [D.plL, Bool.and_eq_true] at h
      obtain ⟨q1, q2⟩ := Rp.dp s n x h.1 r
      obtain ⟨q3, q4⟩ := RpL.dp s n xs h.2 t
      simp only [D.pyL, PyData.canLayAll0, q2, q4]
      exact ⟨.cons q1 q3, rfl⟩
end
end
section
variable {S : SA} {X : Cx} {G F G' F' H H' : Hp} {σ : L2.St} {env : DEnv} {d : D} {v : V} {p : Addr} {Q : VK} {m ma mb mc : DE} {a b c e : Expr} {pos : Pos}
theorem RdB.dp {K : PySem.W.Frag} (g : Good S G F σ H env) {n : Nat} (h : d.pl n = true) (r : RdB S F σ env d v) : Dp K H v d.py ∧ PyData.canLay0 d.py = true := by
  rcases r.elim g with r | ⟨a, rfl, h4⟩
  · exact Rp.dp g.fh n d h r
  · skip
    cases d with
    | lst xs =>
      obtain ⟨vs, h5, h6, _⟩ := h4
      cases n with
      | zero => simp [D.pl] at h
      | succ n =>
        obtain ⟨q1, q2⟩ := RpL.dp (K := K) g.fh n xs (by simpa [D.pl] using h) h6
        simp only [D.py, PyData.canLay0]
        exact ⟨.lst (.of h5) q1, q2⟩
    | dct _ _ => simp [D.pl] at h
    | dcn _ => simp [D.pl] at h
    | _ => exact h4.elim
theorem RdB.shaped {K : PySem.W.Frag} (g : Good S G F σ H env) (h : d.pl 64 = true) (r : RdB S F σ env d v) : Dp K H v d.py ∧ SeqAt.shaped d.py = true := by
  obtain ⟨q1, q2⟩ := r.dp (K := K) g h
  refine ⟨q1, ?_⟩
  unfold SeqAt.shaped
  rw [q2, decide_eq_true (D.dep 64 d h)]; rfl

/-! ### == and != -/
def dEq : D → D → M D
  | .bl a, e => match e with
    | .bl b => .ret (.bl (a == b))
    | _ => .fail
  | d, e => if d.pl 64 && e.pl 64 then .ret (.bl (D.beq d e)) else .fail
def dNe : D → D → M D
  | .bl a, e => match e with
    | .bl b => .ret (.bl (!(a == b)))
    | _ => .fail
  | d, e => if d.pl 64 && e.pl 64 then .ret (.bl (!D.beq d e)) else .fail
theorem dEq_wp {P : D → Prop} {d e : D} (h : (dEq d e).wp P) : (∃ a b, d = .bl a ∧ e = .bl b ∧ P (.bl (a == b))) ∨ (d.pl 64 = true ∧ e.pl 64 = true ∧ P (.bl (D.beq d e))) := by
  cases d with
  | bl a =>
    cases e with
    | bl b => exact .inl ⟨a, b, rfl, rfl, h⟩
    | _ => exact h.elim
  | _ =>
    refine .inr ?_
    unfold dEq at h
    simp only at h
    split at h
    · rename_i hc
      rw [Bool.and_eq_true] at hc
      exact ⟨hc.1, hc.2, h⟩
    · exact h.elim
theorem dNe_wp {P : D → Prop} {d e : D} (h : (dNe d e).wp P) : (∃ a b, d = .bl a ∧ e = .bl b ∧ P (.bl (!(a == b)))) ∨ (d.pl 64 = true ∧ e.pl 64 = true ∧ P (.bl (!D.beq d e))) := by
  cases d with
  | bl a =>
    cases e with
    | bl b => exact .inl ⟨a, b, rfl, rfl, h⟩
    | _ => exact h.elim
  | _ =>
    refine .inr ?_
    unfold dNe at h
    simp only at h
    split at h
    · rename_i hc
      rw [Bool.and_eq_true] at hc
      exact ⟨hc.1, hc.2, h⟩
    · exact h.elim
theorem bl_dec (a b : Bool) : decide (V.bl a = V.bl b) = (a == b) := by cases a <;> cases b <;> rfl
theorem o_eq (hu : X.A.units + 64 < cLine) : OpD S X (compareOp .Eq) dEq := ⟨_, L2.op_eq.or (L2.op_eqD hu), fun G F σ H env x y d e Q g r1 r2 q => by
  rcases dEq_wp q with ⟨a, b, rfl, rfl, q⟩ | ⟨h1, h2, q⟩
  · obtain rfl := r1.bl g
    obtain rfl := r2.bl g
    exact .inl ⟨rfl, by rw [bl_dec]; exact Post.now q g (.bl _)⟩
  · obtain ⟨p1, s1⟩ := r1.shaped (K := X.K) g h1
    obtain ⟨p2, s2⟩ := r2.shaped (K := X.K) g h2
    exact .inr ⟨_, _, p1, p2, s1, s2, by rw [D.eqv_beq 64 d e h1 h2]; exact Post.now q g (.bl _)⟩⟩
theorem o_ne (hu : X.A.units + 64 < cLine) : OpD S X (compareOp .NotEq) dNe := ⟨_, L2.op_ne.or (L2.op_neD hu), fun G F σ H env x y d e Q g r1 r2 q => by
  rcases dNe_wp q with ⟨a, b, rfl, rfl, q⟩ | ⟨h1, h2, q⟩
  · obtain rfl := r1.bl g
    obtain rfl := r2.bl g
    exact .inl ⟨rfl, by rw [bl_dec]; exact Post.now q g (.bl _)⟩
  · obtain ⟨p1, s1⟩ := r1.shaped (K := X.K) g h1
    obtain ⟨p2, s2⟩ := r2.shaped (K := X.K) g h2
    exact .inr ⟨_, _, p1, p2, s1, s2, by rw [D.eqv_beq 64 d e h1 h2]; exact Post.now q g (.bl _)⟩⟩
/-! ### < <= > >= of ints -/
theorem opB_I0 {f : Value → Value → Sem Value} {gi : Int → Int → Bool} (h : OpR X f (rI0 fun i j => .bl (gi i j))) : OpD S X f (dI2 (fun _ _ => true) fun i j => .bl (gi i j)) :=
  ⟨_, h, fun G F σ H env x y d e Q g r1 r2 q => by
    cases d with
    | int i =>
      cases e with
      | int j =>
        obtain rfl := r1.int g
        obtain rfl := r2.int g
        exact ⟨i, j, rfl, rfl, Post.now q g (.bl _)⟩
      | _ => exact q.elim
    | _ => exact q.elim⟩
def dLt : D → D → M D := dI2 (fun _ _ => true) fun i j => .bl (decide (i < j))
def dLe : D → D → M D := dI2 (fun _ _ => true) fun i j => .bl (decide (i ≤ j))
def dGt : D → D → M D := dI2 (fun _ _ => true) fun i j => .bl (decide (j < i))
def dGe : D → D → M D := dI2 (fun _ _ => true) fun i j => .bl (decide (j ≤ i))
theorem o_lt : OpD S X (compareOp .Lt) dLt := opB_I0 op_lt
theorem o_le : OpD S X (compareOp .LtE) dLe := opB_I0 op_le
theorem o_gt : OpD S X (compareOp .Gt) dGt := opB_I0 op_gt
theorem o_ge : OpD S X (compareOp .GtE) dGe := opB_I0 op_ge
/-! ### is None -/
def dIs : D → D → M D
  | d, .non => .ret (.bl (match d with | .non => true | _ => false))
  | _, _ => .fail
def dIsNot : D → D → M D
  | d, .non => .ret (.bl (match d with | .non => false | _ => true))
  | _, _ => .fail
theorem RdB.isNon (g : Good S G F σ H env) (r : RdB S F σ env d v) : decide (v = V.non) = (match d with | .non => true | _ => false) := by
  rcases r.elim g with r | ⟨a, rfl, h4⟩
  · cases r <;> simp
  · skip
    cases d with
    | lst xs => simp
    | dct _ _ => simp
    | dcn _ => simp
    | _ => exact h4.elim
theorem o_is : OpD S X (compareOp .Is) dIs := ⟨_, op_isN, fun G F σ H env x y d e Q g r1 r2 q => by
  cases e with
  | non =>
    obtain rfl := r2.non g
    refine ⟨rfl, ?_⟩
    rw [r1.isNon g]
    exact Post.now (show Post S G F σ env Q _ by cases d <;> exact q) g (.bl _)
  | _ => cases d <;> exact q.elim⟩
theorem o_isNot : OpD S X (compareOp .IsNot) dIsNot := ⟨_, op_notN, fun G F σ H env x y d e Q g r1 r2 q => by
  cases e with
  | non =>
    obtain rfl := r2.non g
    refine ⟨rfl, ?_⟩
    rw [r1.isNon g]
    exact Post.now (show Post S G F σ env Q _ by cases d <;> exact q) g (.bl _)
  | _ => cases d <;> exact q.elim⟩
/-! ### in, not in: lists, tuples; one text in another -/
def memD (x : D) (xs : List D) : Bool := xs.any fun y => D.beq y x
def strIn (x y : Str) : Bool := !(Builtin.Str.occurrences y x 0 y.length 1).isEmpty
def dIn : D → D → M D
  | x, .lst xs => if x.pl 63 && D.plL 63 xs then .ret (.bl (memD x xs)) else .fail
  | x, .tup xs => if x.pl 63 && D.plL 63 xs then .ret (.bl (memD x xs)) else .fail
  | .str x, .str y => .ret (.bl (strIn x y))
  | _, _ => .fail
def dNotIn : D → D → M D
  | x, .lst xs => if x.pl 63 && D.plL 63 xs then .ret (.bl (!memD x xs)) else .fail
  | x, .tup xs => if x.pl 63 && D.plL 63 xs then .ret (.bl (!memD x xs)) else .fail
  | .str x, .str y => .ret (.bl (!strIn x y))
  | _, _ => .fail
def rInT (K : PySem.W.Frag) (neg : Bool) : R2 := fun x y H Q => ∃ d ds, Dp K H x d ∧ Dp K H y (.tuple ds) ∧ SeqAt.shaped d = true ∧ SeqAt.shaped (.tuple ds) = true ∧ Q (.bl (if neg then !ds.any fun z => PyData.eqv z d else ds.any fun z => PyData.eqv z d)) H
theorem room_inT {A : Around} {ds : List PyData} {d : PyData} (h : SeqAt.shaped d = true) (hu : A.units + 65 < cLine) : A.units + 1 + min (PyData.depthAll ds) d.depth < cLine := by
  have h1 := SeqAt.depth_of_shaped h
  have h2 : min (PyData.depthAll ds) d.depth ≤ d.depth := Nat.min_le_right _ _
  omega
theorem op_inT (hu : X.A.units + 65 < cLine) : OpR X (compareOp .In) (rInT X.K false) := by
  intro pins s σ H x y v u Q I rx ry h
  obtain ⟨d, ds, hd, he, sd, se, q⟩ := h
  obtain ⟨as, r1⟩ := Dp.reads I d x v hd rx
  obtain ⟨bs, r2⟩ := Dp.reads I (.tuple ds) y u he ry
  exact SeqAt.in_tuple_reads r2 r1 (SeqAt.canLay_of_shaped se) (SeqAt.canLay_of_shaped sd) (room_inT sd hu) ⟨.bl _, H, I, rfl, q⟩
theorem op_notInT (hu : X.A.units + 65 < cLine) : OpR X (compareOp .NotIn) (rInT X.K true) := by
  intro pins s σ H x y v u Q I rx ry h
  obtain ⟨d, ds, hd, he, sd, se, q⟩ := h
  obtain ⟨as, r1⟩ := Dp.reads I d x v hd rx
  obtain ⟨bs, r2⟩ := Dp.reads I (.tuple ds) y u he ry
  exact SeqAt.notIn_tuple_reads r2 r1 (SeqAt.canLay_of_shaped se) (SeqAt.canLay_of_shaped sd) (room_inT sd hu) ⟨.bl _, H, I, rfl, q⟩
theorem any_memD (x : D) (hx : x.pl 63 = true) : ∀ (xs : List D), D.plL 63 xs = true → ((D.pyL xs).any fun z => PyData.eqv z x.py) = memD x xs
  | [], _ => rfl
  | y :: ys, h => by
    simp only [D.plL, Bool.and_eq_true] at h
    show (PyData.eqv y.py x.py || (D.pyL ys).any _) = (D.beq y x || memD x ys)
    rw [D.eqv_beq 63 y x h.1 hx, any_memD x hx ys h.2]
mutual
theorem D.pl_succ : ∀ (n : Nat) (d : D), d.pl n = true → d.pl (n + 1) = true
  | n, .non, _ => by simp [D.pl]
  | n, .int i, _ => by simp [D.pl]
  | n, .str i, _ => by simp [D.pl]
  | n, .bl i, h => by simp [D.pl] at h
  | n, .dct _ i, h => by simp [D.pl] at h
  | n, .dcn i, h => by simp [D.pl] at h
  | n, .stt, h => by simp [D.pl] at h
  | 0, .tup xs, h => by simp [D.pl] at h
  | 0, .lst xs, h => by simp [D.pl] at h
  | n + 1, .tup xs, h => by simp only [D.pl] at h ⊢; exact D.plL_succ n xs h
  | n + 1, .lst xs, h => by simp only [D.pl] at h ⊢; exact D.plL_succ n xs h
theorem D.plL_succ : ∀ (n : Nat) (d : List D), D.plL n d = true → D.plL (n + 1) d = true
  | n, [], _ => by simp [D.plL]
  | n, x :: xs, h => by
    simp only [D.plL, Bool.and_eq_true] at h ⊢
    exact ⟨D.pl_succ n x h.1, D.plL_succ n xs h.2⟩
end
theorem o_in (hu : X.A.units + 65 < cLine) : OpD S X (compareOp .In) dIn := ⟨_, (op_inD hu).or ((op_inT hu).or op_in_str), fun G F σ H env x y d e Q g r1 r2 q => by
  have hs : ∀ {xs : List D}, D.plL 63 xs = true → (D.lst xs).pl 64 = true ∧ (D.tup xs).pl 64 = true := fun h => ⟨h, h⟩
  cases e with
  | lst xs =>
    have q' : (if d.pl 63 && D.plL 63 xs then M.ret (D.bl (memD d xs)) else M.fail).wp (Post S G F σ env Q) := by cases d <;> exact q
    split at q'
    · rename_i hc
      rw [Bool.and_eq_true] at hc
      obtain ⟨p1, s1⟩ := r1.shaped (K := X.K) g (D.pl_succ _ _ hc.1)
      obtain ⟨p2, s2⟩ := r2.shaped (K := X.K) g (hs hc.2).1
      exact .inl ⟨_, D.pyL xs, p1, by simpa only [D.py] using p2, s1, by simpa only [D.py] using s2, by rw [any_memD d hc.1 xs hc.2]; exact Post.now q' g (.bl _)⟩
    · exact q'.elim
  | tup xs =>
    have q' : (if d.pl 63 && D.plL 63 xs then M.ret (D.bl (memD d xs)) else M.fail).wp (Post S G F σ env Q) := by cases d <;> exact q
    split at q'
    · rename_i hc
      rw [Bool.and_eq_true] at hc
      obtain ⟨p1, s1⟩ := r1.shaped (K := X.K) g (D.pl_succ _ _ hc.1)
      obtain ⟨p2, s2⟩ := r2.shaped (K := X.K) g (hs hc.2).2
      exact .inr (.inl ⟨_, D.pyL xs, p1, by simpa only [D.py] using p2, s1, by simpa only [D.py] using s2, by rw [if_neg (by decide), any_memD d hc.1 xs hc.2]; exact Post.now q' g (.bl _)⟩)
    · exact q'.elim
  | str y =>
    cases d with
    | str x =>
      obtain ⟨rfl, _⟩ := r1.str g
      obtain ⟨rfl, _⟩ := r2.str g
      exact .inr (.inr ⟨x, y, rfl, rfl, Post.now q g (.bl _)⟩)
    | _ => exact q.elim
  | _ => cases d <;> exact q.elim⟩
theorem o_notIn (hu : X.A.units + 65 < cLine) : OpD S X (compareOp .NotIn) dNotIn := ⟨_, (op_notInD hu).or ((op_notInT hu).or L2.op_notin_str), fun G F σ H env x y d e Q g r1 r2 q => by
  have hs : ∀ {xs : List D}, D.plL 63 xs = true → (D.lst xs).pl 64 = true ∧ (D.tup xs).pl 64 = true := fun h => ⟨h, h⟩
  cases e with
  | lst xs =>
    have q' : (if d.pl 63 && D.plL 63 xs then M.ret (D.bl (!memD d xs)) else M.fail).wp (Post S G F σ env Q) := by cases d <;> exact q
    split at q'
    · rename_i hc
      rw [Bool.and_eq_true] at hc
      obtain ⟨p1, s1⟩ := r1.shaped (K := X.K) g (D.pl_succ _ _ hc.1)
      obtain ⟨p2, s2⟩ := r2.shaped (K := X.K) g (hs hc.2).1
      exact .inl ⟨_, D.pyL xs, p1, by simpa only [D.py] using p2, s1, by simpa only [D.py] using s2, by rw [any_memD d hc.1 xs hc.2]; exact Post.now q' g (.bl _)⟩
    · exact q'.elim
  | tup xs =>
    have q' : (if d.pl 63 && D.plL 63 xs then M.ret (D.bl (!memD d xs)) else M.fail).wp (Post S G F σ env Q) := by cases d <;> exact q
    split at q'
    · rename_i hc
      rw [Bool.and_eq_true] at hc
      obtain ⟨p1, s1⟩ := r1.shaped (K := X.K) g (D.pl_succ _ _ hc.1)
      obtain ⟨p2, s2⟩ := r2.shaped (K := X.K) g (hs hc.2).2
      exact .inr (.inl ⟨_, D.pyL xs, p1, by simpa only [D.py] using p2, s1, by simpa only [D.py] using s2, by rw [if_pos rfl, any_memD d hc.1 xs hc.2]; exact Post.now q' g (.bl _)⟩)
    · exact q'.elim
  | str y =>
    cases d with
    | str x =>
      obtain ⟨rfl, _⟩ := r1.str g
      obtain ⟨rfl, _⟩ := r2.str g
      exact .inr (.inr ⟨x, y, rfl, rfl, Post.now q g (.bl _)⟩)
    | _ => exact q.elim
  | _ => cases d <;> exact q.elim⟩

/-! ### + -/
theorem addPost_tup {xs ys : List D} (g : Good S G F σ H env) {x y : V} (r1 : RdB S F σ env (.tup xs) x) (r2 : RdB S F σ env (.tup ys) y) (hz : xs.length + ys.length ≤ sizeLine) (q : Post S G F σ env Q (.tup (xs ++ ys))) : rCatA X.K x y H Q := by
  have w1 := r1.rpl g
  have w2 := r2.rpl g
  obtain ⟨p, vs, rfl, f1, h1, l1, z1⟩ := r1.tup g
  obtain ⟨p', us, rfl, f2, h2, l2, z2⟩ := r2.tup g
  have n1 := l1.len
  have n2 := l2.len
  refine ⟨p, p', vs, us, rfl, rfl, .of h1, .of h2, by omega, fun e => ?_, fun e1 e2 => ?_, fun e1 e2 t ht => ?_⟩
  · subst e
    cases l1
    exact q.now g w2
  · subst e2
    cases l2
    rw [List.append_nil] at q
    exact q.now g w1
  · exact q.tup g ht (l1.append l2) (by rw [List.length_append]; omega)
theorem o_add : OpD S X (binaryOp .Add) dAdd := ⟨_, op_add.or (op_add_str.or (op_catA.or op_cat)), fun G F σ H env x y d e Q g r1 r2 q => by
  cases d with
  | int i =>
    cases e with
    | int j =>
      obtain rfl := r1.int g
      obtain rfl := r2.int g
      exact .inl ⟨i, j, rfl, rfl, Post.now q g (.int _)⟩
    | _ => exact q.elim
  | str i =>
    cases e with
    | str j =>
      obtain ⟨rfl, o1, _⟩ := r1.str g
      obtain ⟨rfl, o2, _⟩ := r2.str g
      simp only [dAdd] at q
      split at q
      · rename_i hz
        refine .inr (.inl ⟨i, j, rfl, rfl, hz, Post.now q g (.str _ (strOk_append o1 o2) ?_)⟩)
        have e : (i ++ j).length = i.length + j.length := by
          show (i.cps ++ j.cps).size = _
          rw [Array.size_append]; rfl
        rw [e]; exact hz
      · exact q.elim
    | _ => exact q.elim
  | tup xs =>
    cases e with
    | tup ys =>
      simp only [dAdd] at q
      split at q
      · exact .inr (.inr (.inl (addPost_tup g r1 r2 (by assumption) q)))
      · exact q.elim
    | _ => exact q.elim
  | lst xs =>
    cases e with
    | lst ys =>
      simp only [dAdd] at q
      split at q
      · obtain ⟨p, vs, rfl, h1, l1, z1⟩ := r1.lst g
        obtain ⟨p', us, rfl, h2, l2, z2⟩ := r2.lst g
        have n1 := l1.len
        have n2 := l2.len
        exact .inr (.inr (.inr ⟨p, p', vs, us, rfl, rfl, h1, h2, by omega, fun t ht => Post.lst q g ht (l1.append l2) (by rw [List.length_append]; omega)⟩))
      · exact q.elim
    | _ => exact q.elim
  | _ => exact q.elim⟩
theorem o_cat : OpF S X (binaryOp .Add) dCat := ⟨_, op_cat, fun G F σ H env x y d e Q g r1 r2 q => by
  cases d with
  | lst xs =>
    cases e with
    | lst ys =>
      simp only [dCat] at q
      split at q
      · obtain ⟨p, vs, rfl, h1, l1, z1⟩ := r1.lst g
        obtain ⟨p', us, rfl, h2, l2, z2⟩ := r2.lst g
        have n1 := l1.len
        have n2 := l2.len
        exact ⟨p, p', vs, us, rfl, rfl, h1, h2, by omega, fun t ht => PostF.lst q g ht (l1.append l2) (by rw [List.length_append]; omega)⟩
      · exact q.elim
    | _ => exact q.elim
  | _ => exact q.elim⟩
end
end DL

set_option Elab.async false
set_option linter.all false
set_option maxRecDepth 100000
/-! DL3d: dicts by trees: keys that are ints and texts, or tuples of such. -/
namespace DL
open PySem PySem.Spec L2
open PyProof.Rows hiding St

def D.isKey : D → Bool
  | .int _ => true
  | .str _ => true
  | _ => false
def valD (kvs : List (D × D)) (k : D) : Option D := (kvs.find? fun p => D.beq p.1 k).map (·.2)
def putD (kvs : List (D × D)) (k e : D) : List (D × D) := if kvs.any (fun p => D.beq p.1 k) then kvs.map (fun p => if D.beq p.1 k then (p.1, e) else p) else kvs ++ [(k, e)]
/-- may this be a key of such a dict -/
def keyOk : Bool → D → Bool
  | false, d => d.isKey
  | true, .tup ks => ks.all D.isKey
  | true, _ => false
theorem KeyD.pl {d : D} {k : Key} (h : KeyD d k) : d.pl 0 = true := by
  rcases h with ⟨i, rfl, _⟩ | ⟨x, rfl, _⟩ <;> simp [D.pl]
theorem KeyD.eq_iff {d e : D} {k l : Key} (h : KeyD d k) (h' : KeyD e l) : d = e ↔ k = l := by
  rcases h with ⟨i, rfl, rfl⟩ | ⟨x, rfl, rfl, _⟩ <;> rcases h' with ⟨j, rfl, rfl⟩ | ⟨y, rfl, rfl, _⟩ <;> simp
theorem KeyD.beq {d e : D} {k l : Key} (h : KeyD d k) (h' : KeyD e l) : D.beq d e = decide (k = l) := by
  have q := (D.beq_eq 0 d e h.pl).trans (h.eq_iff h')
  by_cases z : k = l
  · rw [decide_eq_true z]; exact q.mpr z
  · rw [decide_eq_false z]; cases hb : D.beq d e with
    | false => rfl
    | true => exact absurd (q.mp hb) z
theorem KeysD.beqL : ∀ {ds es : List D} {ks ls : List Key}, KeysD ds ks → KeysD es ls → D.beqL ds es = decide (ks = ls)
  | [], [], [], [], _, _ => by simp [D.beqL]
  | [], _ :: _, [], _ :: _, _, _ => by simp [D.beqL]
  | _ :: _, [], _ :: _, [], _, _ => by simp [D.beqL]
  | d :: ds, e :: es, k :: ks, l :: ls, h, h' => by
    show (D.beq d e && D.beqL ds es) = _
    rw [h.1.beq h'.1, KeysD.beqL h.2 h'.2]
    by_cases z : k = l <;> by_cases z' : ks = ls <;> simp [z, z']
  | [], _, _ :: _, _, h, _ => h.elim
  | _ :: _, _, [], _, h, _ => h.elim
  | [], [], [], _ :: _, _, h => h.elim
  | [], _ :: _, [], [], _, h => h.elim
  | _ :: _, [], _ :: _, _ :: _, _, h => h.elim
  | _ :: _, _ :: _, _ :: _, [], _, h => h.elim
section
variable {S : SA} {X : Cx} {G F G' F' H H' : Hp} {σ : L2.St} {env : DEnv} {d e : D} {v u : V} {p : Addr} {Q : VK}
def RpO (S : SA) (F : Hp) : Option D → Option V → Prop
  | some d, some v => Rp S F d v
  | none, none => True
  | _, _ => False
theorem RpK.val : ∀ {kvs : List (D × D)} {es : List (Key × V)} {d : D} {k : Key}, RpK S F kvs es → KeyD d k → RpO S F (valD kvs d) (valV es k)
  | _, _, _, _, .nil, _ => trivial
  | _, _, d, k, .cons (kd := kd) (k := k') hk hr ht, h => by
    unfold valD valV
    rw [List.find?_cons, List.find?_cons]
    simp only
    rw [hk.beq h]
    cases decide (k' = k) with
    | true => exact hr
    | false => exact RpK.val ht h
theorem RpT.val : ∀ {kvs : List (D × D)} {es : List (List Key × V)} {ds : List D} {k : List Key}, RpT S F kvs es → KeysD ds k → RpO S F (valD kvs (.tup ds)) (valV es k)
  | _, _, _, _, .nil, _ => trivial
  | _, _, d, k, .cons (kds := kds) (ks := k') hk hr ht, h => by
    unfold valD valV
    rw [List.find?_cons, List.find?_cons]
    simp only [D.beq]
    rw [hk.beqL h]
    cases decide (k' = k) with
    | true => exact hr
    | false => exact RpT.val ht h
theorem RpK.any : ∀ {kvs : List (D × D)} {es : List (Key × V)} {d : D} {k : Key}, RpK S F kvs es → KeyD d k → (kvs.any fun p => D.beq p.1 d) = es.any fun kv => decide (kv.1 = k)
  | _, _, _, _, .nil, _ => rfl
  | _, _, d, k, .cons hk hr ht, h => by
    rw [List.any_cons, List.any_cons, RpK.any ht h]
    simp only
    rw [hk.beq h]
theorem RpT.any : ∀ {kvs : List (D × D)} {es : List (List Key × V)} {ds : List D} {k : List Key}, RpT S F kvs es → KeysD ds k → (kvs.any fun p => D.beq p.1 (.tup ds)) = es.any fun kv => decide (kv.1 = k)
  | _, _, _, _, .nil, _ => rfl
  | _, _, d, k, .cons hk hr ht, h => by
    rw [List.any_cons, List.any_cons, RpT.any ht h]
    simp only [D.beq]
    rw [hk.beqL h]
theorem RpK.mapPut {d e : D} {k : Key} {u : V} (hk : KeyD d k) (hr : Rp S F e u) : ∀ {kvs : List (D × D)} {es : List (Key × V)}, RpK S F kvs es → RpK S F (kvs.map fun p => if D.beq p.1 d then (p.1, e) else p) (es.map fun kv => if kv.1 = k then (kv.1, u) else kv)
  | _, _, .nil => .nil
  | _, _, .cons (kd := kd) (k := k') h1 h2 h3 => by
    rw [List.map_cons, List.map_cons]
    simp only
    have q := h1.beq hk
    by_cases z : k' = k
    · rw [decide_eq_true z] at q
      rw [if_pos q, if_pos z]
      exact .cons h1 hr (RpK.mapPut hk hr h3)
    · rw [decide_eq_false z] at q
      rw [if_neg (by rw [q]; simp), if_neg z]
      exact .cons h1 h2 (RpK.mapPut hk hr h3)
theorem RpT.mapPut {ds : List D} {e : D} {k : List Key} {u : V} (hk : KeysD ds k) (hr : Rp S F e u) : ∀ {kvs : List (D × D)} {es : List (List Key × V)}, RpT S F kvs es → RpT S F (kvs.map fun p => if D.beq p.1 (.tup ds) then (p.1, e) else p) (es.map fun kv => if kv.1 = k then (kv.1, u) else kv)
  | _, _, .nil => .nil
  | _, _, .cons (kds := kd) (ks := k') h1 h2 h3 => by
    rw [List.map_cons, List.map_cons]
    have q : (D.tup kd).beq (.tup ds) = decide (k' = k) := by
      have := h1.beqL hk
      rw [D.beq]
      exact this
    by_cases z : k' = k
    · rw [decide_eq_true z] at q
      rw [if_pos (show (D.tup kd).beq (.tup ds) = true from q), if_pos z]
      exact .cons h1 hr (RpT.mapPut hk hr h3)
    · rw [decide_eq_false z] at q
      rw [if_neg (show ¬ (D.tup kd).beq (.tup ds) = true by rw [q]; simp), if_neg z]
      exact .cons h1 h2 (RpT.mapPut hk hr h3)
theorem RpK.append : ∀ {kvs kvs' : List (D × D)} {es es' : List (Key × V)}, RpK S F kvs es → RpK S F kvs' es' → RpK S F (kvs ++ kvs') (es ++ es')
  | _, _, _, _, .nil, s => s
  | _, _, _, _, .cons a b t, s => .cons a b (RpK.append t s)
theorem RpT.append : ∀ {kvs kvs' : List (D × D)} {es es' : List (List Key × V)}, RpT S F kvs es → RpT S F kvs' es' → RpT S F (kvs ++ kvs') (es ++ es')
  | _, _, _, _, .nil, s => s
  | _, _, _, _, .cons a b t, s => .cons a b (RpT.append t s)
theorem RpK.len : ∀ {kvs : List (D × D)} {es : List (Key × V)}, RpK S F kvs es → kvs.length = es.length
  | _, _, .nil => rfl
  | _, _, .cons _ _ t => congrArg (· + 1) (RpK.len t)
theorem RpT.len : ∀ {kvs : List (D × D)} {es : List (List Key × V)}, RpT S F kvs es → kvs.length = es.length
  | _, _, .nil => rfl
  | _, _, .cons _ _ t => congrArg (· + 1) (RpT.len t)
theorem RpK.put {kvs : List (D × D)} {es : List (Key × V)} {d e : D} {k : Key} {u : V} (r : RpK S F kvs es) (hk : KeyD d k) (hr : Rp S F e u) : RpK S F (putD kvs d e) (putK es k u) := by
  unfold putD putK
  rw [r.any hk]
  split
  · exact RpK.mapPut hk hr r
  · exact r.append (.cons hk hr .nil)
theorem RpT.put {kvs : List (D × D)} {es : List (List Key × V)} {ds : List D} {e : D} {k : List Key} {u : V} (r : RpT S F kvs es) (hk : KeysD ds k) (hr : Rp S F e u) : RpT S F (putD kvs (.tup ds) e) (putK es k u) := by
  unfold putD putK
  rw [r.any hk]
  split
  · exact RpT.mapPut hk hr r
  · exact r.append (.cons hk hr .nil)
theorem putK_le {κ : Type} [DecidableEq κ] (es : List (κ × V)) (k : κ) (u : V) : (putK es k u).length ≤ es.length + 1 := by
  unfold putK
  split
  · rw [List.length_map]; omega
  · rw [List.length_append, List.length_singleton]; omega
/-- a key as it lies -/
theorem key_of_isKey (h : d.isKey = true) (r : Rp S F d v) : ∃ k, KeyD d k ∧ v = kV k := by
  cases d with
  | int i => cases r; exact ⟨.inl i, .inl ⟨i, rfl, rfl⟩, rfl⟩
  | str x => cases r with
    | str _ h1 h2 => exact ⟨.inr x, .inr ⟨x, rfl, rfl, h1, h2⟩, rfl⟩
  | _ => cases h
theorem keys_of_all : ∀ {ds : List D} {vs : List V}, ds.all D.isKey = true → RpL S F ds vs → ∃ ks, KeysD ds ks ∧ vs = ks.map kV
  | [], _, _, r => by cases r; exact ⟨[], trivial, rfl⟩
  | d :: ds, _, h, r => by
    cases r with
    | cons r t =>
      rw [List.all_cons, Bool.and_eq_true] at h
      obtain ⟨k, h1, rfl⟩ := key_of_isKey h.1 r
      obtain ⟨ks, h2, rfl⟩ := keys_of_all h.2 t
      exact ⟨k :: ks, ⟨h1, h2⟩, rfl⟩
theorem RdB.dctK {kvs : List (D × D)} (g : Good S G F σ H env) (h : RdB S F σ env (.dct false kvs) v) : ∃ p es, v = .ref p ∧ Rd H p (.dK es) ∧ RpK S F kvs es ∧ es.length ≤ sizeLine := by
  rcases h.elim g with h | ⟨a, rfl, es, h4, h5, h6⟩
  · cases h with
    | dctK h1 h2 h3 => exact ⟨_, _, rfl, .inr ⟨_, g.fh _ _ h1⟩, h2, h3⟩
  · exact ⟨_, es, rfl, .inl h4, h5, h6⟩
theorem RdB.dctT {kvs : List (D × D)} (g : Good S G F σ H env) (h : RdB S F σ env (.dct true kvs) v) : ∃ p es, v = .ref p ∧ Rd H p (.dT es) ∧ RpT S F kvs es ∧ es.length ≤ sizeLine := by
  rcases h.elim g with h | ⟨a, rfl, es, h4, h5, h6⟩
  · cases h with
    | dctT h1 h2 h3 => exact ⟨_, _, rfl, .inr ⟨_, g.fh _ _ h1⟩, h2, h3⟩
  · exact ⟨_, es, rfl, .inl h4, h5, h6⟩
theorem keyOk_mut {t : Bool} (h : keyOk t d = true) : d.mut = false := by
  cases t <;> cases d <;> simp [keyOk, D.isKey, D.mut] at h ⊢
/-- a look into a dict -/
theorem dget_of {t : Bool} {kvs : List (D × D)} (g : Good S G F σ H env) (r1 : RdB S F σ env (.dct t kvs) v) (r2 : RdB S F σ env d u) (hk : keyOk t d = true) : ∃ a o, v = .ref a ∧ DGet H a u o ∧ IsD H a ∧ RpO S F (valD kvs d) o := by
  have r2 := r2.rp g (keyOk_mut hk)
  cases t with
  | false =>
    obtain ⟨p, es, rfl, h1, h2, _⟩ := r1.dctK g
    obtain ⟨k, k1, rfl⟩ := key_of_isKey hk r2
    exact ⟨p, _, rfl, .inl ⟨es, k, h1, rfl, rfl⟩, .inl ⟨es, h1⟩, h2.val k1⟩
  | true =>
    cases d with
    | tup ds =>
      cases r2 with
      | tup f1 f2 f3 =>
        obtain ⟨p, es, rfl, h1, h2, _⟩ := r1.dctT g
        obtain ⟨ks, k1, rfl⟩ := keys_of_all hk f2
        exact ⟨p, _, rfl, .inr ⟨es, ks, _, h1, rfl, g.fh _ _ f1, rfl⟩, .inr ⟨es, h1⟩, h2.val k1⟩
    | _ => cases hk
/-- in, not in, d[k] by values -/
def rInDct : R2 := fun x y H Q => ∃ a o, y = .ref a ∧ DGet H a x o ∧ Q (.bl o.isSome) H
def rNotInDct : R2 := fun x y H Q => ∃ a o, y = .ref a ∧ DGet H a x o ∧ Q (.bl (!o.isSome)) H
theorem op_inDct (hu : X.A.units + 1 < cLine) : OpR X (compareOp .In) rInDct := by
  intro pins s σ H x y v u Q I rx ry h
  obtain ⟨a, o, rfl, g, q⟩ := h
  cases ry
  exact d_in hu I g rx fun s' I' => ⟨.bl _, H, I', rfl, q⟩
theorem op_notInDct (hu : X.A.units + 1 < cLine) : OpR X (compareOp .NotIn) rNotInDct := by
  intro pins s σ H x y v u Q I rx ry h
  obtain ⟨a, o, rfl, g, q⟩ := h
  cases ry
  exact d_notIn hu I g rx fun s' I' => ⟨.bl _, H, I', rfl, q⟩
def rIxDct : R2 := fun x y H Q => ∃ a v, x = .ref a ∧ DGet H a y (some v) ∧ Q v H
theorem ix_dct (hu : X.A.units + 1 < cLine) : IxR X rIxDct := by
  intro value slice pins s σ H x y v u Q I rx ry h hs
  obtain ⟨a, z, rfl, g, q⟩ := h
  cases rx
  exact PyProof.Rows.tail_any (dict_typeIs I g) PySem.F.slot_dict_getitem.lookup (d_getItem hu I g ry fun w' s' I' r => ⟨z, H, I', r, q⟩) hs
def dInX : D → D → M D
  | x, .dct t kvs => if keyOk t x then .ret (.bl (valD kvs x).isSome) else .fail
  | x, y => dIn x y
def dNotInX : D → D → M D
  | x, .dct t kvs => if keyOk t x then .ret (.bl (!(valD kvs x).isSome)) else .fail
  | x, y => dNotIn x y
theorem RpO.isSome {o : Option D} {w : Option V} (h : RpO S F o w) : w.isSome = o.isSome := by
  cases o <;> cases w <;> first | rfl | exact h.elim
theorem o_inX (hu : X.A.units + 65 < cLine) : OpD S X (compareOp .In) dInX := by
  obtain ⟨r, hr, k⟩ := o_in (S := S) hu
  refine ⟨_, hr.or (op_inDct (by omega)), fun G F σ H env x y d e Q g r1 r2 q => ?_⟩
  cases e with
  | dct t kvs =>
    have q' : (if keyOk t d then M.ret (D.bl (valD kvs d).isSome) else M.fail).wp (Post S G F σ env Q) := by cases d <;> exact q
    split at q'
    · obtain ⟨a, o, e1, e2, _, e3⟩ := dget_of g r2 r1 (by assumption)
      exact .inr ⟨a, o, e1, e2, by rw [e3.isSome]; exact Post.now q' g (.bl _)⟩
    · exact q'.elim
  | _ => exact .inl (k G F σ H env x y d _ Q g r1 r2 (by cases d <;> exact q))
theorem o_notInX (hu : X.A.units + 65 < cLine) : OpD S X (compareOp .NotIn) dNotInX := by
  obtain ⟨r, hr, k⟩ := o_notIn (S := S) hu
  refine ⟨_, hr.or (op_notInDct (by omega)), fun G F σ H env x y d e Q g r1 r2 q => ?_⟩
  cases e with
  | dct t kvs =>
    have q' : (if keyOk t d then M.ret (D.bl (!(valD kvs d).isSome)) else M.fail).wp (Post S G F σ env Q) := by cases d <;> exact q
    split at q'
    · obtain ⟨a, o, e1, e2, _, e3⟩ := dget_of g r2 r1 (by assumption)
      exact .inr ⟨a, o, e1, e2, by rw [e3.isSome]; exact Post.now q' g (.bl _)⟩
    · exact q'.elim
  | _ => exact .inl (k G F σ H env x y d _ Q g r1 r2 (by cases d <;> exact q))
end
end DL

set_option Elab.async false
set_option linter.all false
set_option maxRecDepth 100000
/-! DL4: tests, displays, subscripts, slices, calls of what is built in. -/
namespace DL
open PySem PySem.Spec L2
open PyProof.Rows hiding St

abbrev DT := DEnv → M Bool
abbrev DA := DEnv → M (List D)
def PostT (S : SA) (G F : Hp) (σ : L2.St) (env : DEnv) (Q : Bool → Hp → Prop) (b : Bool) : Prop := ∀ G' F' H', Ext G F G' F' → Good S G' F' σ H' env → Q b H'
def TT_ (S : SA) (m : DT) : TT := fun σ H Q => ∃ G F env, Good S G F σ H env ∧ (m env).wp (PostT S G F σ env Q)
def QT (S : SA) (X : Cx) (e : Expr) (m : DT) : Prop := PT X e (TT_ S m)
def QW (S : SA) (X : Cx) (e : Expr) (m : DT) : Prop := PW X e (TT_ S m)
abbrev RdBL (S : SA) (F : Hp) (σ : L2.St) (env : DEnv) : List D → List V → Prop := Paired (RdB S F σ env)
def PostA (S : SA) (G F : Hp) (σ : L2.St) (env : DEnv) (Q : List V → Hp → Prop) (ds : List D) : Prop := ∀ vs G' F' H', Ext G F G' F' → Good S G' F' σ H' env → RdBL S F' σ env ds vs → Q vs H'
def TAB_ (S : SA) (m : DA) : TA := fun σ H Q => ∃ G F env, Good S G F σ H env ∧ (m env).wp (PostA S G F σ env Q)
def QAB (S : SA) (X : Cx) (es : List Expr) (m : DA) : Prop := PA X es (TAB_ S m)
def PostAE (S : SA) (G F : Hp) (σ : L2.St) (env : DEnv) (Q : List V → Hp → Prop) (ds : List D) : Prop := ∀ vs G' F' H', Ext G F G' F' → Good S G' F' σ H' env → RpL S F' ds vs → Q vs H'
def TAE_ (S : SA) (m : DA) : TA := fun σ H Q => ∃ G F env, Good S G F σ H env ∧ (m env).wp (PostAE S G F σ env Q)
def QA (S : SA) (X : Cx) (es : List Expr) (m : DA) : Prop := PA X es (TAE_ S m)

section
variable {S : SA} {X : Cx} {G F G' F' H H' : Hp} {σ : L2.St} {env : DEnv} {d : D} {v : V} {p : Addr} {Q : VK} {m ma mb mc : DE} {t ta tb : DT} {ms : DA} {a b c e : Expr} {es rest : List Expr} {pos : Pos}
theorem postT_shift {Q : Bool → Hp → Prop} {k : Bool} {G1 F1 : Hp} (x : Ext G F G1 F1) (h : PostT S G F σ env Q k) : PostT S G1 F1 σ env Q k := fun G' F' H' e g => h G' F' H' (x.trans e) g
theorem postA_shift {Q : List V → Hp → Prop} {k : List D} {G1 F1 : Hp} (x : Ext G F G1 F1) (h : PostA S G F σ env Q k) : PostA S G1 F1 σ env Q k := fun vs G' F' H' e g r => h vs G' F' H' (x.trans e) g r
theorem postAE_shift {Q : List V → Hp → Prop} {k : List D} {G1 F1 : Hp} (x : Ext G F G1 F1) (h : PostAE S G F σ env Q k) : PostAE S G1 F1 σ env Q k := fun vs G' F' H' e g r => h vs G' F' H' (x.trans e) g r
/-! ### comparisons as values, as tests; chains -/
def asB : D → M Bool
  | .bl b => .ret b
  | _ => .fail
theorem asB_wp {P : Bool → Prop} {d : D} (h : (asB d).wp P) : ∃ b, d = .bl b ∧ P b := by
  cases d with
  | bl b => exact ⟨b, rfl, h⟩
  | _ => exact h.elim
theorem qcmp {o : CmpOp} {op : D → D → M D} (ho : OpD S X (compareOp o) op) (ha : QB S X a ma) (hb : QB S X b mb) (hm : behindInMarks o b = false := by first | exact nomark _ | rfl) : QE S X (.Compare a [o] [b] pos) (mBin op ma mb) := by
  obtain ⟨r, hr, k⟩ := ho
  exact pe_weak (pe_cmpR hr ha hb hm) fun σ H Q ⟨G, F, env, g, q⟩ => two ma mb (PP := fun G F => Post S G F σ env Q) g q (fun _ _ _ _ _ => post_shift) fun G F H x y d e g r1 r2 q => k G F σ H env x y d e Q g r1 r2 q
def mBinT (op : D → D → M D) (ma mb : DE) : DT := fun env => mBin op ma mb env >>= asB
theorem postB_of {Q : Bool → Hp → Prop} (h : (asB d).wp (PostT S G F σ env Q)) : Post S G F σ env (fun x H' => ∃ k, x = .bl k ∧ Q k H') d := fun v G' F' H' e g r => by
  obtain ⟨b, rfl, q⟩ := asB_wp h
  cases r
  exact ⟨b, rfl, q G' F' H' e g⟩
theorem qtcmp {o : CmpOp} {op : D → D → M D} (ho : OpD S X (compareOp o) op) (ha : QB S X a ma) (hb : QB S X b mb) (hm : behindInMarks o b = false := by first | exact nomark _ | rfl) : QT S X (.Compare a [o] [b] pos) (mBinT op ma mb) := by
  obtain ⟨r, hr, k⟩ := ho
  exact pt_weak (pt_cmpR hr ha hb hm) fun σ H Q ⟨G, F, env, g, q⟩ => two ma mb (PP := fun G F => Post S G F σ env _) g (M.wp_mono (M.wpb q) fun d => postB_of) (fun _ _ _ _ _ => post_shift) fun G F H x y d e g r1 r2 q => k G F σ H env x y d e _ g r1 r2 q
def mChain (op op' : D → D → M D) (ma mb mc : DE) : DE := fun env => ma env >>= fun x => mb env >>= fun y => op x y >>= asB >>= fun k => if k then mc env >>= fun z => op' y z else .ret (.bl false)
theorem chain_core {op op' : D → D → M D} {r r' : R2}
    (k : ∀ (G F : Hp) (σ : L2.St) (H : Hp) (env : DEnv) (x y : V) (d e : D) (Q : VK), Good S G F σ H env → RdB S F σ env d x → RdB S F σ env e y → (op d e).wp (Post S G F σ env Q) → r x y H Q)
    (k' : ∀ (G F : Hp) (σ : L2.St) (H : Hp) (env : DEnv) (x y : V) (d e : D) (Q : VK), Good S G F σ H env → RdB S F σ env d x → RdB S F σ env e y → (op' d e).wp (Post S G F σ env Q) → r' x y H Q)
    (g : Good S G F σ H env) (q : (mChain op op' ma mb mc env).wp (Post S G F σ env Q)) : tChain r r' (TB_ S ma) (TB_ S mb) (TB_ S mc) σ H Q := by
  refine ⟨G, F, env, g, M.wp_mono (M.wpb q) fun d q x G1 F1 H1 e1 g1 r1 => ⟨G1, F1, env, g1, M.wp_mono (M.wpb q) fun d2 q y G2 F2 H2 e2 g2 r2 => ?_⟩⟩
  refine k G2 F2 σ H2 env x y d d2 _ g2 (r1.mono e2.f) r2 (M.wp_mono (M.wpb (M.wpb q)) fun d3 q z G3 F3 H3 e3 g3 r3 => ?_)
  obtain ⟨kk, ek, q'⟩ := asB_wp q
  subst ek
  cases r3
  refine ⟨kk, rfl, ?_⟩
  cases kk with
  | true =>
    rw [if_pos rfl] at q' ⊢
    refine ⟨G3, F3, env, g3, M.wp_mono (M.wpb q') fun d4 q w G4 F4 H4 e4 g4 r4 => ?_⟩
    exact k' G4 F4 σ H4 env y w d2 d4 Q g4 (r2.mono (e3.f.trans e4.f)) r4 (M.wp_mono q fun _ => post_shift (e1.trans (e2.trans (e3.trans e4))))
  | false =>
    rw [if_neg (by decide)] at q' ⊢
    exact (post_shift (e1.trans (e2.trans e3)) q').now g3 (.bl _)
theorem qchain {o o' : CmpOp} {op op' : D → D → M D} (ho : OpD S X (compareOp o) op) (ho' : OpD S X (compareOp o') op') (ha : QB S X a ma) (hb : QB S X b mb) (hc : QB S X c mc)
    (hm : lastMarks [o, o'] [b, c] = false := by with_unfolding_all rfl) : QE S X (.Compare a [o, o'] [b, c] pos) (mChain op op' ma mb mc) := by
  obtain ⟨r, hr, k⟩ := ho
  obtain ⟨r', hr', k'⟩ := ho'
  exact pe_weak (pe_chain hr hr' ha hb hc hm) fun σ H Q ⟨G, F, env, g, q⟩ => chain_core k k' g q
def mTE (m : DE) : DT := fun env => m env >>= asB
theorem qtchain {o o' : CmpOp} {op op' : D → D → M D} (ho : OpD S X (compareOp o) op) (ho' : OpD S X (compareOp o') op') (ha : QB S X a ma) (hb : QB S X b mb) (hc : QB S X c mc)
    (hm : lastMarks [o, o'] [b, c] = false := by with_unfolding_all rfl) : QT S X (.Compare a [o, o'] [b, c] pos) (mTE (mChain op op' ma mb mc)) := by
  obtain ⟨r, hr, k⟩ := ho
  obtain ⟨r', hr', k'⟩ := ho'
  exact pt_weak (pt_chain hr hr' ha hb hc hm) fun σ H Q ⟨G, F, env, g, q⟩ => chain_core k k' g (M.wp_mono (M.wpb q) fun d => postB_of)
/-! ### truth -/
def truM : D → M Bool
  | .non => .ret false
  | .bl b => .ret b
  | .int i => .ret (i != 0)
  | .str x => .ret ((x.length : Int) != 0)
  | .tup xs => .ret !xs.isEmpty
  | .lst xs => .ret !xs.isEmpty
  | _ => .fail
def mTru (m : DE) : DT := fun env => m env >>= truM
theorem isE {α β : Type} {xs : List α} {ys : List β} (h : xs.length = ys.length) : (!xs.isEmpty) = !ys.isEmpty := by
  cases xs <;> cases ys <;> simp at h ⊢
theorem tru_of {K : PySem.W.Frag} {P : Bool → Prop} (g : Good S G F σ H env) (r : RdB S F σ env d v) (h : (truM d).wp P) : ∃ k, TruV K v H k ∧ P k := by
  cases d with
  | non => obtain rfl := r.non g; exact ⟨false, rfl, h⟩
  | bl b => obtain rfl := r.bl g; exact ⟨b, rfl, h⟩
  | int b => obtain rfl := r.int g; exact ⟨_, rfl, h⟩
  | str b => obtain ⟨rfl, _, z⟩ := r.str g; exact ⟨_, ⟨z, rfl⟩, h⟩
  | tup xs =>
    obtain ⟨p, vs, rfl, f1, h1, l1, z1⟩ := r.tup g
    exact ⟨_, .inr (.inl ⟨vs, .of h1, (isE l1.len)⟩), h⟩
  | lst xs =>
    obtain ⟨p, vs, rfl, h1, l1, z1⟩ := r.lst g
    exact ⟨_, .inl ⟨vs, .of h1, (isE l1.len)⟩, h⟩
  | dct _ _ => exact h.elim
  | dcn _ => exact h.elim
  | stt => exact h.elim
theorem qtru (ha : QB S X a ma) (he : ∀ whole, isTrue a X.env whole = (do let v ← whole; standAt a.pos; holding [v] (truthy v)) := by intro _; rfl) : QT S X a (mTru ma) :=
  pt_weak (pt_truth ha he) fun σ H Q ⟨G, F, env, g, q⟩ => ⟨G, F, env, g, M.wp_mono (M.wpb q) fun d q v G1 F1 H1 e1 g1 r1 => by
    obtain ⟨k, h1, h2⟩ := tru_of (K := X.K) g1 r1 q
    exact ⟨k, h1, h2 G1 F1 H1 e1 g1⟩⟩
/-! ### and, or, not, if else -/
def mAnd (ta tb : DT) : DT := fun env => ta env >>= fun k => if k then tb env else .ret false
def mOr (ta tb : DT) : DT := fun env => ta env >>= fun k => if k then .ret true else tb env
def mNot (ta : DT) : DT := fun env => ta env >>= fun k => .ret !k
theorem QW.test (h : QW S X e t) : QT S X e t := PW.pt h
theorem qw_and1 (ha : QT S X a ta) : QW S X (.BoolOp .And [a] pos) ta := pw_and1 ha
theorem qw_or1 (ha : QT S X a ta) : QW S X (.BoolOp .Or [a] pos) ta := pw_or1 ha
theorem pw_weak {t t' : TT} (h : PW X e t) (w : ∀ σ H Q, t' σ H Q → t σ H Q) : PW X e t' := ⟨fun wh pins s σ H Q I q => h.run wh pins s σ H Q I (w σ H Q q)⟩
theorem qw_and (ha : QT S X a ta) (hb : QW S X (.BoolOp .And (b :: rest) pos) tb) : QW S X (.BoolOp .And (a :: b :: rest) pos) (mAnd ta tb) :=
  pw_weak (pw_and ha hb) fun σ H Q ⟨G, F, env, g, q⟩ => ⟨G, F, env, g, M.wp_mono (M.wpb q) fun k q G1 F1 H1 e1 g1 => by
    cases k with
    | true => rw [if_pos rfl] at q ⊢; exact ⟨G1, F1, env, g1, M.wp_mono q fun _ => postT_shift e1⟩
    | false => rw [if_neg (by decide)] at q ⊢; exact q G1 F1 H1 e1 g1⟩
theorem qw_or (ha : QT S X a ta) (hb : QW S X (.BoolOp .Or (b :: rest) pos) tb) : QW S X (.BoolOp .Or (a :: b :: rest) pos) (mOr ta tb) :=
  pw_weak (pw_or ha hb) fun σ H Q ⟨G, F, env, g, q⟩ => ⟨G, F, env, g, M.wp_mono (M.wpb q) fun k q G1 F1 H1 e1 g1 => by
    cases k with
    | false => rw [if_neg (by decide)] at q ⊢; exact ⟨G1, F1, env, g1, M.wp_mono q fun _ => postT_shift e1⟩
    | true => rw [if_pos rfl] at q ⊢; exact q G1 F1 H1 e1 g1⟩
theorem qt_not (ha : QT S X a ta) : QT S X (.UnaryOp .Not a pos) (mNot ta) :=
  pt_weak (pt_not ha) fun σ H Q ⟨G, F, env, g, q⟩ => ⟨G, F, env, g, M.wp_mono (M.wpb q) fun k q G1 F1 H1 e1 g1 => q G1 F1 H1 e1 g1⟩
def mIfE (t : DT) (ma mb : DE) : DE := fun env => t env >>= fun k => if k then ma env else mb env
theorem qifE (hc : QT S X c t) (ha : QE S X a ma) (hb : QE S X b mb) : QE S X (.IfExp c a b pos) (mIfE t ma mb) :=
  pe_weak (pe_ifExp hc ha hb) fun σ H Q ⟨G, F, env, g, q⟩ => ⟨G, F, env, g, M.wp_mono (M.wpb q) fun k q G1 F1 H1 e1 g1 => by
    cases k with
    | true => rw [if_pos rfl] at q ⊢; exact ⟨G1, F1, env, g1, M.wp_mono q fun _ => post_shift e1⟩
    | false => rw [if_neg (by decide)] at q ⊢; exact ⟨G1, F1, env, g1, M.wp_mono q fun _ => post_shift e1⟩⟩
/-- and, or as values: by truth -/
def mAndV (ma mb : DE) : DE := fun env => ma env >>= fun x => truM x >>= fun k => if k then mb env else .ret x
def mOrV (ma mb : DE) : DE := fun env => ma env >>= fun x => truM x >>= fun k => if k then .ret x else mb env
theorem qe_one {op} (h : QE S X a m) : QE S X (.BoolOp op [a] pos) m := pe_one h
theorem qandV (ha : QE S X a ma) (hb : QE S X (.BoolOp .And (b :: rest) pos) mb) : QE S X (.BoolOp .And (a :: b :: rest) pos) (mAndV ma mb) :=
  pe_weak (pe_andT ha hb) fun σ H Q ⟨G, F, env, g, q⟩ => ⟨G, F, env, g, M.wp_mono (M.wpb q) fun d q v G1 F1 H1 e1 g1 r1 => by
    obtain ⟨k, h1, h2⟩ := tru_of (K := X.K) g1 (.inl r1) (M.wpb q)
    refine ⟨k, h1, ?_⟩
    cases k with
    | true => rw [if_pos rfl] at h2 ⊢; exact ⟨G1, F1, env, g1, M.wp_mono h2 fun _ => post_shift e1⟩
    | false => rw [if_neg (by decide)] at h2 ⊢; exact (post_shift e1 h2).now g1 r1⟩
theorem qorV (ha : QE S X a ma) (hb : QE S X (.BoolOp .Or (b :: rest) pos) mb) : QE S X (.BoolOp .Or (a :: b :: rest) pos) (mOrV ma mb) :=
  pe_weak (pe_orT ha hb) fun σ H Q ⟨G, F, env, g, q⟩ => ⟨G, F, env, g, M.wp_mono (M.wpb q) fun d q v G1 F1 H1 e1 g1 r1 => by
    obtain ⟨k, h1, h2⟩ := tru_of (K := X.K) g1 (.inl r1) (M.wpb q)
    refine ⟨k, h1, ?_⟩
    cases k with
    | false => rw [if_neg (by decide)] at h2 ⊢; exact ⟨G1, F1, env, g1, M.wp_mono h2 fun _ => post_shift e1⟩
    | true => rw [if_pos rfl] at h2 ⊢; exact (post_shift e1 h2).now g1 r1⟩
def mNotV (ma : DE) : DE := fun env => ma env >>= fun x => truM x >>= fun k => .ret (.bl !k)
theorem qnotV (ha : QB S X a ma) : QE S X (.UnaryOp .Not a pos) (mNotV ma) :=
  pe_weak (pe_notT ha) fun σ H Q ⟨G, F, env, g, q⟩ => ⟨G, F, env, g, M.wp_mono (M.wpb q) fun d q v G1 F1 H1 e1 g1 r1 => by
    obtain ⟨k, h1, h2⟩ := tru_of (K := X.K) g1 r1 (M.wpb q)
    exact ⟨k, h1, (post_shift e1 h2).now g1 (.bl _)⟩⟩
def mNeg (ma : DE) : DE := fun env => ma env >>= fun x => match x with
  | .int i => .ret (.int (-i))
  | _ => .fail
theorem qneg (ha : QB S X a ma) : QE S X (.UnaryOp .USub a pos) (mNeg ma) :=
  pe_weak (pe_un un_neg ha) fun σ H Q ⟨G, F, env, g, q⟩ => ⟨G, F, env, g, M.wp_mono (M.wpb q) fun d q v G1 F1 H1 e1 g1 r1 => by
    cases d with
    | int i =>
      obtain rfl := r1.int g1
      exact ⟨i, rfl, (post_shift e1 q).now g1 (.int _)⟩
    | _ => exact q.elim⟩
/-! ### rows of parts -/
def aNil : DA := fun _ => .ret []
def aCons (m : DE) (ms : DA) : DA := fun env => m env >>= fun x => ms env >>= fun xs => .ret (x :: xs)
theorem qab_nil : QAB S X [] aNil := pa_weak pa_nil fun σ H Q ⟨G, F, env, g, q⟩ => q [] G F H (Ext.refl _ _) g .nil
theorem qab_cons (ha : QB S X e m) (hr : QAB S X es ms) (hs : starEach (e :: es) X.env = (false, eval e X.env) :: starEach es X.env := by rfl) : QAB S X (e :: es) (aCons m ms) :=
  pa_weak (pa_cons ha hr hs) fun σ H Q ⟨G, F, env, g, q⟩ => ⟨G, F, env, g, M.wp_mono (M.wpb q) fun d q v G1 F1 H1 e1 g1 r1 => ⟨G1, F1, env, g1, M.wp_mono (M.wpb q) fun ds q vs G2 F2 H2 e2 g2 r2 =>
    q _ G2 F2 H2 (e1.trans e2) g2 (.cons (r1.mono e2.f) r2)⟩⟩
theorem qa_nil : QA S X [] aNil := pa_weak pa_nil fun σ H Q ⟨G, F, env, g, q⟩ => q [] G F H (Ext.refl _ _) g .nil
theorem qa_cons (ha : QE S X e m) (hr : QA S X es ms) (hs : starEach (e :: es) X.env = (false, eval e X.env) :: starEach es X.env := by rfl) : QA S X (e :: es) (aCons m ms) :=
  pa_weak (pa_cons ha hr hs) fun σ H Q ⟨G, F, env, g, q⟩ => ⟨G, F, env, g, M.wp_mono (M.wpb q) fun d q v G1 F1 H1 e1 g1 r1 => ⟨G1, F1, env, g1, M.wp_mono (M.wpb q) fun ds q vs G2 F2 H2 e2 g2 r2 =>
    q _ G2 F2 H2 (e1.trans e2) g2 (.cons (r1.mono e2.f) r2)⟩⟩
def mTup (ms : DA) : DE := fun env => ms env >>= fun xs => if xs.length ≤ sizeLine then .ret (.tup xs) else .fail
def mLst (ms : DA) : DE := fun env => ms env >>= fun xs => if xs.length ≤ sizeLine then .ret (.lst xs) else .fail
theorem qtup {x1} (h : QA S X es ms) : QE S X (.Tuple es x1 pos) (mTup ms) :=
  pe_weak (pe_tup h) fun σ H Q ⟨G, F, env, g, q⟩ => ⟨G, F, env, g, M.wp_mono (M.wpb q) fun ds q vs G1 F1 H1 e1 g1 r1 => by
    split at q
    · have n := r1.len
      exact ⟨by omega, fun p hp => (post_shift e1 q).tup g1 hp r1 (by omega)⟩
    · exact q.elim⟩
theorem qlst (h : QA S X es ms) : QF S X (.List es pos) (mLst ms) :=
  pe_weak (pe_lst h) fun σ H Q ⟨G, F, env, g, q⟩ => ⟨G, F, env, g, M.wp_mono (M.wpb q) fun ds q vs G1 F1 H1 e1 g1 r1 => by
    split at q
    · have n := r1.len
      exact ⟨by omega, fun p hp => (postF_shift e1 q).lst g1 hp r1 (by omega)⟩
    · exact q.elim⟩
/-! ### subscripts -/
theorem atI_rpl {ds : List D} {vs : List V} {i : Int} {d : D} (r : RpL S F ds vs) (h : atI ds i = some d) : ∃ v, atI vs i = some v ∧ Rp S F d v := by
  unfold atI at h ⊢
  rw [← r.len]
  cases e : ixN ds.length i with
  | none => rw [e] at h; cases h
  | some j => rw [e] at h; exact r.get h
def dIx : D → D → M D
  | .lst xs, .int i => M.opt (atI xs i)
  | .tup xs, .int i => M.opt (atI xs i)
  | .str x, .int i => match atI x.cps.toList i with
    | some c => .ret (.str ⟨#[c]⟩)
    | none => .fail
  | .dct t kvs, k => if keyOk t k then M.opt (valD kvs k) else .fail
  | _, _ => .fail
theorem atI_mem {α : Type} {xs : List α} {i : Int} {v : α} (h : atI xs i = some v) : v ∈ xs := by
  unfold atI at h
  cases e : ixN xs.length i with
  | none => rw [e] at h; cases h
  | some j => rw [e] at h; exact List.mem_of_getElem? h
theorem qix (hu : X.A.units + 1 < cLine) (ha : QB S X a ma) (hb : QB S X b mb) (hs : PlainIx b := by intro _ _; rfl) : QE S X (.Subscript a b pos) (mBin dIx ma mb) :=
  pe_weak (pe_ix ((ix_dct hu).or ix_seq) ha hb hs) fun σ H Q ⟨G, F, env, g, q⟩ => two ma mb (PP := fun G F => Post S G F σ env Q) g q (fun _ _ _ _ _ => post_shift) fun G F H x y d e g r1 r2 q => by
    cases d with
    | dct t kvs =>
      have q' : (if keyOk t e then M.opt (valD kvs e) else M.fail).wp (Post S G F σ env Q) := q
      split at q'
      · obtain ⟨w, hw, q2⟩ := M.wp_opt q'
        obtain ⟨a, o, e1, e2, _, e3⟩ := dget_of g r1 r2 (by assumption)
        rw [hw] at e3
        cases o with
        | none => exact e3.elim
        | some u => exact .inl ⟨a, u, e1, e2, q2.now g e3⟩
      · exact q'.elim
    | lst xs =>
      cases e with
      | int i =>
        obtain ⟨p, vs, rfl, h1, l1, z1⟩ := r1.lst g
        obtain rfl := r2.int g
        obtain ⟨u, hu, q⟩ := M.wp_opt q
        obtain ⟨w, hw, rw'⟩ := atI_rpl l1 hu
        exact .inr (.inl ⟨p, vs, i, w, rfl, rfl, .of h1, hw, q.now g rw'⟩)
      | _ => exact q.elim
    | tup xs =>
      cases e with
      | int i =>
        obtain ⟨p, vs, rfl, f1, h1, l1, z1⟩ := r1.tup g
        obtain rfl := r2.int g
        obtain ⟨u, hu, q⟩ := M.wp_opt q
        obtain ⟨w, hw, rw'⟩ := atI_rpl l1 hu
        exact .inr (.inr (.inl ⟨p, vs, i, w, rfl, rfl, .of h1, hw, q.now g rw'⟩))
      | _ => exact q.elim
    | str x =>
      cases e with
      | int i =>
        obtain ⟨rfl, ok, z⟩ := r1.str g
        obtain rfl := r2.int g
        simp only [dIx] at q
        split at q
        · rename_i c hc
          refine .inr (.inr (.inr ⟨x, i, c, rfl, rfl, z, hc, Post.now q g (.str _ ?_ ?_)⟩))
          · unfold PyData.strOk at ok ⊢
            rw [Array.all_eq_true_iff_forall_mem] at ok
            have hm : c ∈ x.cps := by have := atI_mem hc; simpa using this
            simpa using ok c hm
          · show 1 ≤ sizeLine; decide
        · exact q.elim
      | _ => exact q.elim
    | _ => exact q.elim
/-! ### slices -/
def PostO (S : SA) (G F : Hp) (σ : L2.St) (env : DEnv) (Q : Option Int → Hp → Prop) (o : Option Int) : Prop := ∀ G' F' H', Ext G F G' F' → Good S G' F' σ H' env → Q o H'
abbrev DO := DEnv → M (Option Int)
def TO_ (S : SA) (m : DO) : TO := fun σ H Q => ∃ G F env, Good S G F σ H env ∧ (m env).wp (PostO S G F σ env Q)
def QO (S : SA) (X : Cx) (o : Option Expr) (m : DO) : Prop := PO X o (TO_ S m)
theorem po_weak {X : Cx} {e : Option Expr} {t t' : TO} (h : PO X e t) (w : ∀ σ H Q, t' σ H Q → t σ H Q) : PO X e t' := ⟨fun pins s σ H Q I q => h.run pins s σ H Q I (w σ H Q q)⟩
def oNone : DO := fun _ => .ret none
def asI : D → M Int
  | .int i => .ret i
  | _ => .fail
theorem asI_wp {P : Int → Prop} {d : D} (h : (asI d).wp P) : ∃ b, d = .int b ∧ P b := by
  cases d with
  | int b => exact ⟨b, rfl, h⟩
  | _ => exact h.elim
def oSome (m : DE) : DO := fun env => m env >>= fun x => asI x >>= fun i => .ret (some i)
theorem qo_none : QO S X none oNone := po_weak po_none fun σ H Q ⟨G, F, env, g, q⟩ => q G F H (Ext.refl _ _) g
theorem qo_some (h : QB S X e m) : QO S X (some e) (oSome m) := po_weak (po_some h) fun σ H Q ⟨G, F, env, g, q⟩ => ⟨G, F, env, g, M.wp_mono (M.wpb q) fun d q v G1 F1 H1 e1 g1 r1 => by
  obtain ⟨i, rfl, q⟩ := asI_wp (M.wpb q)
  obtain rfl := r1.int g1
  exact ⟨i, rfl, q G1 F1 H1 e1 g1⟩⟩
def cutD {α : Type} (xs : List α) (lo hi : Option Int) : List α := (xs.drop (HT.sIx xs.length 0 lo)).take (HT.sIx xs.length xs.length hi - HT.sIx xs.length 0 lo)
theorem cut_rpl {ds : List D} {vs : List V} (r : RpL S F ds vs) (lo hi : Option Int) : RpL S F (cutD ds lo hi) (cutV vs lo hi) := by
  unfold cutD cutV
  rw [r.len]
  exact (r.drop _).take _
theorem cutV_le (vs : List V) (lo hi : Option Int) : (cutV vs lo hi).length ≤ vs.length := by
  unfold cutV
  rw [List.length_take, List.length_drop]
  omega
def dSl : D → Option Int → Option Int → M D
  | .lst xs, lo, hi => .ret (.lst (cutD xs lo hi))
  | .tup xs, lo, hi => .ret (.tup (cutD xs lo hi))
  | .str x, lo, hi => .ret (.str (cutS x lo hi))
  | _, _, _ => .fail
def dSlL : D → Option Int → Option Int → M D
  | .lst xs, lo, hi => .ret (.lst (cutD xs lo hi))
  | _, _, _ => .fail
def mSl (f : D → Option Int → Option Int → M D) (m : DE) (lo hi : DO) : DE := fun env => m env >>= fun x => lo env >>= fun l => hi env >>= fun h => f x l h
theorem sl_parts {PP : Hp → Hp → D → Prop} {f : D → Option Int → Option Int → M D} {lo hi : DO} {R : V → Option Int → Option Int → Hp → Prop}
    (g : Good S G F σ H env) (q : (mSl f m lo hi env).wp (PP G F)) (sh : ∀ G F G1 F1 d, Ext G F G1 F1 → PP G F d → PP G1 F1 d)
    (k : ∀ G F H x d l h, Good S G F σ H env → RdB S F σ env d x → (f d l h).wp (PP G F) → R x l h H) :
    TB_ S m σ H fun x H1 => TO_ S lo σ H1 fun l H2 => TO_ S hi σ H2 fun h H3 => R x l h H3 :=
  ⟨G, F, env, g, M.wp_mono (M.wpb q) fun d q v G1 F1 H1 e1 g1 r1 => ⟨G1, F1, env, g1, M.wp_mono (M.wpb q) fun l q G2 F2 H2 e2 g2 => ⟨G2, F2, env, g2, M.wp_mono (M.wpb q) fun h q G3 F3 H3 e3 g3 =>
    k G3 F3 H3 v d l h g3 (r1.mono (e2.f.trans e3.f)) (M.wp_mono q fun d3 => sh _ _ _ _ d3 (e1.trans (e2.trans e3)))⟩⟩⟩
theorem cutS_ok {x : Str} {lo hi : Option Int} (h : PyData.strOk x = true) : PyData.strOk (cutS x lo hi) = true := by
  unfold PyData.strOk cutS at *
  rw [Array.all_eq_true_iff_forall_mem] at h ⊢
  intro c hc
  refine h c ?_
  have hc' := List.mem_of_mem_take (List.mem_toArray.mp hc)
  have := List.mem_of_mem_drop hc'
  simpa using this
theorem qsl {lo hi : Option Expr} {p2 : Pos} {ml mh : DO} (ha : QB S X a ma) (hl : QO S X lo ml) (hh : QO S X hi mh) : QE S X (.Subscript a (.Slice lo hi none p2) pos) (mSl dSl ma ml mh) :=
  pe_weak (pe_slice (sl_list.or (sl_tupA.or sl_str)) ha hl hh) fun σ H Q ⟨G, F, env, g, q⟩ => sl_parts (PP := fun G F => Post S G F σ env Q) g q (fun _ _ _ _ _ => post_shift) fun G F H x d l h g r1 q => by
    cases d with
    | lst xs =>
      obtain ⟨p, vs, rfl, h1, l1, z1⟩ := r1.lst g
      exact .inl ⟨p, vs, rfl, .of h1, fun t ht => Post.lst q g ht (cut_rpl l1 l h) (Nat.le_trans (cutV_le _ _ _) z1)⟩
    | tup xs =>
      have w := r1.rpl g
      obtain ⟨p, vs, rfl, f1, h1, l1, z1⟩ := r1.tup g
      refine .inr (.inl ⟨p, vs, rfl, .of h1, fun e => ?_, fun e t ht => Post.tup q g ht (cut_rpl l1 l h) (Nat.le_trans (cutV_le _ _ _) z1)⟩)
      have ec : cutD xs l h = xs := by
        unfold cutD
        rw [l1.len, e.1, e.2, List.drop_zero, Nat.sub_zero, ← l1.len, List.take_length]
      rw [dSl, ec] at q
      exact Post.now q g w
    | str x =>
      obtain ⟨rfl, ok, z⟩ := r1.str g
      exact .inr (.inr ⟨x, rfl, z, Post.now q g (.str _ (cutS_ok ok) (Nat.le_trans (cutS_length _ _ _) z))⟩)
    | _ => exact q.elim
theorem qslF {lo hi : Option Expr} {p2 : Pos} {ml mh : DO} (ha : QB S X a ma) (hl : QO S X lo ml) (hh : QO S X hi mh) : QF S X (.Subscript a (.Slice lo hi none p2) pos) (mSl dSlL ma ml mh) :=
  pe_weak (pe_slice sl_list ha hl hh) fun σ H Q ⟨G, F, env, g, q⟩ => sl_parts (PP := fun G F => PostF S G F σ env Q) g q (fun _ _ _ _ _ => postF_shift) fun G F H x d l h g r1 q => by
    cases d with
    | lst xs =>
      obtain ⟨p, vs, rfl, h1, l1, z1⟩ := r1.lst g
      exact ⟨p, vs, rfl, .of h1, fun t ht => PostF.lst q g ht (cut_rpl l1 l h) (Nat.le_trans (cutV_le _ _ _) z1)⟩
    | _ => exact q.elim
def mRev (m : DE) : DE := fun env => m env >>= fun x => match x with
  | .lst xs => .ret (.lst xs.reverse)
  | _ => .fail
theorem qrev {k : Nat} {p1 p2 p3 : Pos} (ha : QB S X a ma) : QF S X (.Subscript a (.Slice none none (some (.UnaryOp .USub (.Constant (.int 1) k p1) p2)) p3) pos) (mRev ma) :=
  pe_weak (pe_revL ha) fun σ H Q ⟨G, F, env, g, q⟩ => ⟨G, F, env, g, M.wp_mono (M.wpb q) fun d q v G1 F1 H1 e1 g1 r1 => by
    cases d with
    | lst xs =>
      obtain ⟨p, vs, rfl, h1, l1, z1⟩ := r1.lst g1
      exact ⟨p, vs, rfl, .of h1, fun t ht => (postF_shift e1 q).lst g1 ht l1.reverse (by rw [List.length_reverse]; exact z1)⟩
    | _ => exact q.elim⟩
end
end DL

set_option Elab.async false
set_option linter.all false
set_option maxRecDepth 100000
/-! DL5: what is built in, called. -/
namespace DL
open PySem PySem.Spec L2
open PyProof.Rows hiding St

def CallD (S : SA) (X : Cx) (f : Value) (op : List D → M D) : Prop := ∃ r : List V → Hp → VK → Prop, CallR X f r ∧ ∀ (G F : Hp) (σ : L2.St) (H : Hp) (env : DEnv) (vs : List V) (ds : List D) (Q : VK),
  Good S G F σ H env → RdBL S F σ env ds vs → (op ds).wp (Post S G F σ env Q) → r vs H Q
def CallF (S : SA) (X : Cx) (f : Value) (op : List D → M D) : Prop := ∃ r : List V → Hp → VK → Prop, CallR X f r ∧ ∀ (G F : Hp) (σ : L2.St) (H : Hp) (env : DEnv) (vs : List V) (ds : List D) (Q : VK),
  Good S G F σ H env → RdBL S F σ env ds vs → (op ds).wp (PostF S G F σ env Q) → r vs H Q
def mCall (op : List D → M D) (ms : DA) : DE := fun env => ms env >>= op
section
variable {S : SA} {X : Cx} {G F G' F' H H' : Hp} {σ : L2.St} {env : DEnv} {d : D} {v : V} {p : Addr} {Q : VK} {m ma mb mc : DE} {t ta tb : DT} {ms : DA} {a b c e : Expr} {es rest : List Expr} {pos pp : Pos} {x : Str} {op : List D → M D}
theorem callR_or {f : Value} {r r' : List V → Hp → VK → Prop} (h : CallR X f r) (h' : CallR X f r') : CallR X f (fun xs H Q => r xs H Q ∨ r' xs H Q) := by
  intro pins s σ H xs us Q I rv q
  rcases q with q | q
  · exact h pins s σ H xs us Q I rv q
  · exact h' pins s σ H xs us Q I rv q
theorem qcallB {id : String} (hc : CallD S X (.builtin id) op) (hg : Gl X x) (hm : X.mg x = none) (hv : bootBuiltins x = some (.builtin id)) (ha : QAB S X (e :: es) ms) (hn : x ≠ "__name__" := by decide) (hdb : (x == ("__debug__" : Str)) = false := by decide)
    (he : starEach (e :: es) X.env = (false, eval e X.env) :: starEach es X.env := by rfl) (hpl : (backTo pos (starEach es X.env)).any (·.1) = false := by rfl) : QE S X (.Call (.Name x pp) (e :: es) [] pos) (mCall op ms) := by
  obtain ⟨r, hr, k⟩ := hc
  exact pe_weak (pe_callB hr hg hm hv ha hn hdb he hpl) fun σ H Q ⟨G, F, env, g, q⟩ => ⟨G, F, env, g, M.wp_mono (M.wpb q) fun ds q vs G1 F1 H1 e1 g1 r1 => k G1 F1 σ H1 env vs ds Q g1 r1 (M.wp_mono q fun _ => post_shift e1)⟩
theorem qcallBF {id : String} (hc : CallF S X (.builtin id) op) (hg : Gl X x) (hm : X.mg x = none) (hv : bootBuiltins x = some (.builtin id)) (ha : QAB S X (e :: es) ms) (hn : x ≠ "__name__" := by decide) (hdb : (x == ("__debug__" : Str)) = false := by decide)
    (he : starEach (e :: es) X.env = (false, eval e X.env) :: starEach es X.env := by rfl) (hpl : (backTo pos (starEach es X.env)).any (·.1) = false := by rfl) : QF S X (.Call (.Name x pp) (e :: es) [] pos) (mCall op ms) := by
  obtain ⟨r, hr, k⟩ := hc
  exact pe_weak (pe_callB hr hg hm hv ha hn hdb he hpl) fun σ H Q ⟨G, F, env, g, q⟩ => ⟨G, F, env, g, M.wp_mono (M.wpb q) fun ds q vs G1 F1 H1 e1 g1 r1 => k G1 F1 σ H1 env vs ds Q g1 r1 (M.wp_mono q fun _ => postF_shift e1)⟩
theorem qcallT {T : String} (hc : CallD S X (.type T) op) (hg : Gl X x) (hm : X.mg x = none) (hv : bootBuiltins x = some (.type T)) (ha : QAB S X (e :: es) ms) (hn : x ≠ "__name__" := by decide) (hdb : (x == ("__debug__" : Str)) = false := by decide)
    (he : starEach (e :: es) X.env = (false, eval e X.env) :: starEach es X.env := by rfl) (hpl : (backTo pos (starEach es X.env)).any (·.1) = false := by rfl) : QE S X (.Call (.Name x pp) (e :: es) [] pos) (mCall op ms) := by
  obtain ⟨r, hr, k⟩ := hc
  exact pe_weak (pe_callTy hr hg hm hv ha hn hdb he hpl) fun σ H Q ⟨G, F, env, g, q⟩ => ⟨G, F, env, g, M.wp_mono (M.wpb q) fun ds q vs G1 F1 H1 e1 g1 r1 => k G1 F1 σ H1 env vs ds Q g1 r1 (M.wp_mono q fun _ => post_shift e1)⟩
theorem qcallTF {T : String} (hc : CallF S X (.type T) op) (hg : Gl X x) (hm : X.mg x = none) (hv : bootBuiltins x = some (.type T)) (ha : QAB S X (e :: es) ms) (hn : x ≠ "__name__" := by decide) (hdb : (x == ("__debug__" : Str)) = false := by decide)
    (he : starEach (e :: es) X.env = (false, eval e X.env) :: starEach es X.env := by rfl) (hpl : (backTo pos (starEach es X.env)).any (·.1) = false := by rfl) : QF S X (.Call (.Name x pp) (e :: es) [] pos) (mCall op ms) := by
  obtain ⟨r, hr, k⟩ := hc
  exact pe_weak (pe_callTy hr hg hm hv ha hn hdb he hpl) fun σ H Q ⟨G, F, env, g, q⟩ => ⟨G, F, env, g, M.wp_mono (M.wpb q) fun ds q vs G1 F1 H1 e1 g1 r1 => k G1 F1 σ H1 env vs ds Q g1 r1 (M.wp_mono q fun _ => postF_shift e1)⟩
theorem rdb1 {vs : List V} (h : RdBL S F σ env [d] vs) : ∃ v, vs = [v] ∧ RdB S F σ env d v := by
  cases h with
  | cons r t => cases t; exact ⟨_, rfl, r⟩
theorem rdb2 {vs : List V} {d' : D} (h : RdBL S F σ env [d, d'] vs) : ∃ v u, vs = [v, u] ∧ RdB S F σ env d v ∧ RdB S F σ env d' u := by
  cases h with
  | cons r t =>
    cases t with
    | cons r' t => cases t; exact ⟨_, _, rfl, r, r'⟩
/-! ### len -/
def dLen : List D → M D
  | [.lst xs] => .ret (.int xs.length)
  | [.tup xs] => .ret (.int xs.length)
  | [.str x] => .ret (.int x.length)
  | _ => .fail
theorem c_len : CallD S X (.builtin "len") dLen := ⟨_, call_len, fun G F σ H env vs ds Q g r q => by
  unfold dLen at q
  split at q
  · obtain ⟨v, rfl, r1⟩ := rdb1 r
    obtain ⟨p, vs, rfl, h1, l1, z1⟩ := r1.lst g
    exact ⟨_, vs.length, rfl, .inl ⟨vs, .of h1, rfl⟩, by rw [← l1.len]; exact Post.now q g (.int _)⟩
  · obtain ⟨v, rfl, r1⟩ := rdb1 r
    obtain ⟨p, vs, rfl, f1, h1, l1, z1⟩ := r1.tup g
    exact ⟨_, vs.length, rfl, .inr ⟨vs, .of h1, rfl⟩, by rw [← l1.len]; exact Post.now q g (.int _)⟩
  · obtain ⟨v, rfl, r1⟩ := rdb1 r
    obtain ⟨rfl, ok, z⟩ := r1.str g
    exact ⟨_, _, rfl, ⟨z, rfl⟩, Post.now q g (.int _)⟩
  · exact q.elim⟩
/-! ### list(..), tuple(..) -/
def dList : List D → M D
  | [.lst xs] => .ret (.lst xs)
  | [.tup xs] => .ret (.lst xs)
  | _ => .fail
def dTuple : List D → M D
  | [.lst xs] => .ret (.tup xs)
  | [.tup xs] => .ret (.tup xs)
  | _ => .fail
theorem c_list : CallF S X (.type "list") dList := ⟨_, call_list_of, fun G F σ H env vs ds Q g r q => by
  unfold dList at q
  split at q
  · obtain ⟨v, rfl, r1⟩ := rdb1 r
    obtain ⟨p, vs, rfl, h1, l1, z1⟩ := r1.lst g
    exact ⟨p, vs, rfl, .inl (.of h1), fun t ht => PostF.lst q g ht l1 z1⟩
  · obtain ⟨v, rfl, r1⟩ := rdb1 r
    obtain ⟨p, vs, rfl, f1, h1, l1, z1⟩ := r1.tup g
    exact ⟨p, vs, rfl, .inr (.of h1), fun t ht => PostF.lst q g ht l1 z1⟩
  · exact q.elim⟩
theorem c_tuple : CallD S X (.type "tuple") dTuple := ⟨_, call_tuple_of, fun G F σ H env vs ds Q g r q => by
  unfold dTuple at q
  split at q
  · obtain ⟨v, rfl, r1⟩ := rdb1 r
    obtain ⟨p, vs, rfl, h1, l1, z1⟩ := r1.lst g
    exact ⟨p, vs, rfl, .inl ⟨.of h1, fun t ht => Post.tup q g ht l1 z1⟩⟩
  · obtain ⟨v, rfl, r1⟩ := rdb1 r
    have w := r1.rpl g
    obtain ⟨p, vs, rfl, f1, h1, l1, z1⟩ := r1.tup g
    exact ⟨p, vs, rfl, .inr ⟨.of h1, Post.now q g w⟩⟩
  · exact q.elim⟩
/-! ### int, abs -/
def dInt : List D → M D
  | [.int i] => .ret (.int i)
  | [.bl k] => .ret (.int (if k then 1 else 0))
  | _ => .fail
theorem c_int : CallD S X (.type "int") dInt := ⟨_, call_int1, fun G F σ H env vs ds Q g r q => by
  unfold dInt at q
  split at q
  · obtain ⟨v, rfl, r1⟩ := rdb1 r
    obtain rfl := r1.int g
    exact .inl ⟨_, rfl, Post.now q g (.int _)⟩
  · obtain ⟨v, rfl, r1⟩ := rdb1 r
    obtain rfl := r1.bl g
    exact .inr ⟨_, rfl, Post.now q g (.int _)⟩
  · exact q.elim⟩
def dAbs : List D → M D
  | [.int i] => .ret (.int (if i < 0 then -i else i))
  | _ => .fail
theorem c_abs : CallD S X (.builtin "abs") dAbs := ⟨_, call_abs, fun G F σ H env vs ds Q g r q => by
  unfold dAbs at q
  split at q
  · obtain ⟨v, rfl, r1⟩ := rdb1 r
    obtain rfl := r1.int g
    exact ⟨_, rfl, Post.now q g (.int _)⟩
  · exact q.elim⟩
/-! ### all, any, sum, max, min of a list -/
def blsOf : List D → Option (List Bool)
  | [] => some []
  | .bl b :: r => (blsOf r).map (b :: ·)
  | _ => none
def intsOf : List D → Option (List Int)
  | [] => some []
  | .int b :: r => (intsOf r).map (b :: ·)
  | _ => none
theorem bls_rpl : ∀ {ds : List D} {bs : List Bool} {vs : List V}, blsOf ds = some bs → RpL S F ds vs → vs = bs.map V.bl
  | [], bs, vs, h, r => by cases h; cases r; rfl
  | d :: ds, bs, vs, h, r => by
    cases r with
    | cons r t =>
      cases d with
      | bl b =>
        cases r
        simp only [blsOf, Option.map_eq_some_iff] at h
        obtain ⟨bs', h1, rfl⟩ := h
        rw [bls_rpl h1 t]; rfl
      | _ => simp [blsOf] at h
theorem ints_rpl : ∀ {ds : List D} {bs : List Int} {vs : List V}, intsOf ds = some bs → RpL S F ds vs → vs = bs.map V.int
  | [], bs, vs, h, r => by cases h; cases r; rfl
  | d :: ds, bs, vs, h, r => by
    cases r with
    | cons r t =>
      cases d with
      | int b =>
        cases r
        simp only [intsOf, Option.map_eq_some_iff] at h
        obtain ⟨bs', h1, rfl⟩ := h
        rw [ints_rpl h1 t]; rfl
      | _ => simp [intsOf] at h
def dOnL (f : List D → M D) : List D → M D
  | [.lst xs] => f xs
  | _ => .fail
theorem onL {P : D → Prop} {f : List D → M D} {ds : List D} {vs : List V} (g : Good S G F σ H env) (r : RdBL S F σ env ds vs) (q : (dOnL f ds).wp P) :
    ∃ p us xs, vs = [.ref p] ∧ H p = some (.lst us) ∧ RpL S F xs us ∧ us.length ≤ sizeLine ∧ (f xs).wp P := by
  unfold dOnL at q
  split at q
  · obtain ⟨v, rfl, r1⟩ := rdb1 r
    obtain ⟨p, us, rfl, h1, l1, z1⟩ := r1.lst g
    exact ⟨p, us, _, rfl, h1, l1, z1, q⟩
  · exact q.elim
def dAll : List D → M D := dOnL fun xs => M.opt (blsOf xs) >>= fun bs => .ret (.bl (bs.all id))
def dAny : List D → M D := dOnL fun xs => M.opt (blsOf xs) >>= fun bs => .ret (.bl (bs.any id))
def dSum : List D → M D := dOnL fun xs => M.opt (intsOf xs) >>= fun bs => .ret (.int bs.sum)
theorem c_all (hc : X.calm = true) : CallD S X (.builtin "all") dAll := ⟨_, cr_all hc, fun G F σ H env vs ds Q g r q => by
  obtain ⟨p, us, xs, rfl, h1, l1, _, q⟩ := onL g r q
  obtain ⟨bs, hb, q⟩ := M.wp_opt (M.wpb q)
  exact ⟨p, bs, rfl, bls_rpl hb l1 ▸ .of h1, Post.now q g (.bl _)⟩⟩
theorem c_any (hc : X.calm = true) : CallD S X (.builtin "any") dAny := ⟨_, cr_any hc, fun G F σ H env vs ds Q g r q => by
  obtain ⟨p, us, xs, rfl, h1, l1, _, q⟩ := onL g r q
  obtain ⟨bs, hb, q⟩ := M.wp_opt (M.wpb q)
  exact ⟨p, bs, rfl, bls_rpl hb l1 ▸ .of h1, Post.now q g (.bl _)⟩⟩
theorem c_sum (hc : X.calm = true) : CallD S X (.builtin "sum") dSum := ⟨_, cr_sum hc, fun G F σ H env vs ds Q g r q => by
  obtain ⟨p, us, xs, rfl, h1, l1, _, q⟩ := onL g r q
  obtain ⟨bs, hb, q⟩ := M.wp_opt (M.wpb q)
  exact ⟨p, bs, rfl, ints_rpl hb l1 ▸ .of h1, Post.now q g (.int _)⟩⟩
def maxI : List Int → Int
  | [] => 0
  | x :: r => r.foldl (fun m y => if m < y then y else m) x
def minI : List Int → Int
  | [] => 0
  | x :: r => r.foldl (fun m y => if y < m then y else m) x
theorem fold_max : ∀ (r : List Int) (x : Int), (r.foldl (fun m y => if m < y then y else m) x = x ∨ r.foldl (fun m y => if m < y then y else m) x ∈ r) ∧ x ≤ r.foldl (fun m y => if m < y then y else m) x ∧ ∀ y ∈ r, y ≤ r.foldl (fun m y => if m < y then y else m) x
  | [], x => ⟨.inl rfl, Int.le_refl _, fun _ h => nomatch h⟩
  | z :: r, x => by
    rw [List.foldl_cons]
    obtain ⟨h1, h2, h3⟩ := fold_max r (if x < z then z else x)
    have hz : z ≤ (if x < z then z else x) ∧ x ≤ (if x < z then z else x) := by split <;> omega
    refine ⟨?_, by omega, fun y hy => ?_⟩
    · rcases h1 with h1 | h1
      · rw [h1]; split
        · exact .inr (List.mem_cons_self ..)
        · exact .inl rfl
      · exact .inr (List.mem_cons_of_mem _ h1)
    · rcases List.mem_cons.mp hy with rfl | hy
      · omega
      · exact h3 y hy
theorem fold_min : ∀ (r : List Int) (x : Int), (r.foldl (fun m y => if y < m then y else m) x = x ∨ r.foldl (fun m y => if y < m then y else m) x ∈ r) ∧ r.foldl (fun m y => if y < m then y else m) x ≤ x ∧ ∀ y ∈ r, r.foldl (fun m y => if y < m then y else m) x ≤ y
  | [], x => ⟨.inl rfl, Int.le_refl _, fun _ h => nomatch h⟩
  | z :: r, x => by
    rw [List.foldl_cons]
    obtain ⟨h1, h2, h3⟩ := fold_min r (if z < x then z else x)
    have hz : (if z < x then z else x) ≤ z ∧ (if z < x then z else x) ≤ x := by split <;> omega
    refine ⟨?_, by omega, fun y hy => ?_⟩
    · rcases h1 with h1 | h1
      · rw [h1]; split
        · exact .inr (List.mem_cons_self ..)
        · exact .inl rfl
      · exact .inr (List.mem_cons_of_mem _ h1)
    · rcases List.mem_cons.mp hy with rfl | hy
      · omega
      · exact h3 y hy
theorem maxI_spec {l : List Int} (h : 0 < l.length) : maxI l ∈ l ∧ ∀ y ∈ l, y ≤ maxI l := by
  cases l with
  | nil => cases h
  | cons x r =>
    obtain ⟨h1, h2, h3⟩ := fold_max r x
    refine ⟨?_, fun y hy => ?_⟩
    · rcases h1 with h1 | h1
      · show r.foldl _ x ∈ _
        rw [h1]; exact List.mem_cons_self ..
      · exact List.mem_cons_of_mem _ h1
    · rcases List.mem_cons.mp hy with rfl | hy
      · exact h2
      · exact h3 y hy
theorem minI_spec {l : List Int} (h : 0 < l.length) : minI l ∈ l ∧ ∀ y ∈ l, minI l ≤ y := by
  cases l with
  | nil => cases h
  | cons x r =>
    obtain ⟨h1, h2, h3⟩ := fold_min r x
    refine ⟨?_, fun y hy => ?_⟩
    · rcases h1 with h1 | h1
      · show r.foldl _ x ∈ _
        rw [h1]; exact List.mem_cons_self ..
      · exact List.mem_cons_of_mem _ h1
    · rcases List.mem_cons.mp hy with rfl | hy
      · exact h2
      · exact h3 y hy
def dMax : List D → M D
  | [.int i, .int j] => .ret (.int (if j > i then j else i))
  | [.lst xs] => M.opt (intsOf xs) >>= fun bs => if 0 < bs.length then .ret (.int (maxI bs)) else .fail
  | _ => .fail
def dMin : List D → M D
  | [.int i, .int j] => .ret (.int (if j < i then j else i))
  | [.lst xs] => M.opt (intsOf xs) >>= fun bs => if 0 < bs.length then .ret (.int (minI bs)) else .fail
  | _ => .fail
theorem c_max (hc : X.calm = true) : CallD S X (.builtin "max") dMax := ⟨_, callR_or (call_max2 hc) (cr_max hc), fun G F σ H env vs ds Q g r q => by
  unfold dMax at q
  split at q
  · obtain ⟨v, u, rfl, r1, r2⟩ := rdb2 r
    obtain rfl := r1.int g
    obtain rfl := r2.int g
    exact .inl ⟨_, _, rfl, Post.now q g (.int _)⟩
  · obtain ⟨v, rfl, r1⟩ := rdb1 r
    obtain ⟨p, us, rfl, h1, l1, _⟩ := r1.lst g
    obtain ⟨bs, hb, q⟩ := M.wp_opt (M.wpb q)
    split at q
    · rename_i h0
      refine .inr ⟨p, bs, rfl, ints_rpl hb l1 ▸ .of h1, h0, fun m hm hle => ?_⟩
      obtain ⟨s1, s2⟩ := maxI_spec h0
      have e : m = maxI bs := Int.le_antisymm (s2 m hm) (hle _ s1)
      rw [e]
      exact Post.now q g (.int _)
    · exact q.elim
  · exact q.elim⟩
theorem c_min (hc : X.calm = true) : CallD S X (.builtin "min") dMin := ⟨_, callR_or (call_min2 hc) (cr_min hc), fun G F σ H env vs ds Q g r q => by
  unfold dMin at q
  split at q
  · obtain ⟨v, u, rfl, r1, r2⟩ := rdb2 r
    obtain rfl := r1.int g
    obtain rfl := r2.int g
    exact .inl ⟨_, _, rfl, Post.now q g (.int _)⟩
  · obtain ⟨v, rfl, r1⟩ := rdb1 r
    obtain ⟨p, us, rfl, h1, l1, _⟩ := r1.lst g
    obtain ⟨bs, hb, q⟩ := M.wp_opt (M.wpb q)
    split at q
    · rename_i h0
      refine .inr ⟨p, bs, rfl, ints_rpl hb l1 ▸ .of h1, h0, fun m hm hle => ?_⟩
      obtain ⟨s1, s2⟩ := minI_spec h0
      have e : m = minI bs := Int.le_antisymm (hle _ s1) (s2 m hm)
      rw [e]
      exact Post.now q g (.int _)
    · exact q.elim
  · exact q.elim⟩
/-! ### range(..) -/
def rgD (a b : Int) : List D := (List.range (b - a).toNat).map fun i => D.int (a + (i : Nat))
theorem rg_rpl_map : ∀ (l : List Nat) (a : Int), RpL S F (l.map fun i => D.int (a + (i : Nat))) (l.map fun i => V.int (a + (i : Nat)))
  | [], _ => .nil
  | i :: l, a => .cons (.int _) (rg_rpl_map l a)
theorem rg_rpl (a b : Int) : RpL S F (rgD a b) (rgV a b) := rg_rpl_map _ a
def rgOk (a b : Int) : Bool := decide (-(2 ^ 62) ≤ a) && (decide (a < 2 ^ 62) && (decide (-(2 ^ 62) ≤ b) && (decide (b < 2 ^ 62) && decide ((b - a).toNat ≤ 2 ^ 24))))
theorem rgOk_iff {a b : Int} : rgOk a b = true → RgOk a b := fun h => by
  simp only [rgOk, Bool.and_eq_true, decide_eq_true_eq] at h
  exact ⟨h.1, h.2.1, h.2.2.1, h.2.2.2.1, h.2.2.2.2⟩
theorem rgV_le {a b : Int} (h : RgOk a b) : (rgV a b).length ≤ sizeLine := by
  rw [rgV_length, sizeLine_eq]
  exact h.2.2.2.2
def mRgL (f : List D → D) (ma mb : DE) : DE := fun env => ma env >>= fun x => mb env >>= fun y => asI x >>= fun i => asI y >>= fun j => if rgOk i j then .ret (f (rgD i j)) else .fail
def mRgL1 (f : List D → D) (ma : DE) : DE := fun env => ma env >>= fun x => asI x >>= fun j => if rgOk 0 j then .ret (f (rgD 0 j)) else .fail
theorem qlistRg1 {p1 p2 pos2 : Pos} (hc : X.calm = true) (hg : Gl X "list") (hm : X.mg "list" = none) (hg2 : Gl X "range") (hm2 : X.mg "range" = none) (ha : QB S X a ma)
    (n1 : starEach [.Call (.Name "range" p2) [a] [] pos2] X.env = (false, eval (.Call (.Name "range" p2) [a] [] pos2) X.env) :: starEach [] X.env := by rfl) (n2 : starEach [a] X.env = (false, eval a X.env) :: starEach [] X.env := by rfl) :
    QF S X (.Call (.Name "list" p1) [.Call (.Name "range" p2) [a] [] pos2] [] pos) (mRgL1 .lst ma) :=
  pe_weak (pe_listRg hc hg hm (prg_1 hg2 hm2 ha n2) n1) fun σ H Q ⟨G, F, env, g, q⟩ => ⟨G, F, env, g, M.wp_mono (M.wpb q) fun d q v G1 F1 H1 e1 g1 r1 => by
    obtain ⟨i, ei, q1⟩ := asI_wp (M.wpb q)
    subst ei
    obtain rfl := r1.int g1
    split at q1
    · have ok := rgOk_iff (by assumption)
      exact ⟨i, rfl, ok, fun t ht => (postF_shift e1 q1).lst g1 ht (rg_rpl _ _) (rgV_le ok)⟩
    · exact q1.elim⟩
theorem qlistRg2 {p1 p2 pos2 : Pos} (hc : X.calm = true) (hg : Gl X "list") (hm : X.mg "list" = none) (hg2 : Gl X "range") (hm2 : X.mg "range" = none) (ha : QB S X a ma) (hb : QB S X b mb)
    (n1 : starEach [.Call (.Name "range" p2) [a, b] [] pos2] X.env = (false, eval (.Call (.Name "range" p2) [a, b] [] pos2) X.env) :: starEach [] X.env := by rfl) (n2 : starEach [a, b] X.env = (false, eval a X.env) :: starEach [b] X.env := by rfl)
    (n3 : starEach [b] X.env = (false, eval b X.env) :: starEach [] X.env := by rfl) (n4 : (backTo pos2 (starEach [b] X.env)).any (·.1) = false := by rfl) :
    QF S X (.Call (.Name "list" p1) [.Call (.Name "range" p2) [a, b] [] pos2] [] pos) (mRgL .lst ma mb) :=
  pe_weak (pe_listRg hc hg hm (prg_2 hg2 hm2 ha hb n2 n3 n4) n1) fun σ H Q ⟨G, F, env, g, q⟩ => ⟨G, F, env, g, M.wp_mono (M.wpb q) fun d q v G1 F1 H1 e1 g1 r1 => ⟨G1, F1, env, g1, M.wp_mono (M.wpb q) fun d2 q v2 G2 F2 H2 e2 g2 r2 => by
    obtain ⟨i, ei, q1⟩ := asI_wp (M.wpb q)
    obtain ⟨j, ej, q2⟩ := asI_wp (M.wpb q1)
    subst ei ej
    obtain rfl := r1.int g1
    obtain rfl := r2.int g2
    split at q2
    · have ok := rgOk_iff (by assumption)
      exact ⟨i, j, rfl, rfl, ok, fun t ht => (postF_shift (e1.trans e2) q2).lst g2 ht (rg_rpl _ _) (rgV_le ok)⟩
    · exact q2.elim⟩⟩
theorem qtupRg1 {p1 p2 pos2 : Pos} (hc : X.calm = true) (hg : Gl X "tuple") (hm : X.mg "tuple" = none) (hg2 : Gl X "range") (hm2 : X.mg "range" = none) (ha : QB S X a ma)
    (n1 : starEach [.Call (.Name "range" p2) [a] [] pos2] X.env = (false, eval (.Call (.Name "range" p2) [a] [] pos2) X.env) :: starEach [] X.env := by rfl) (n2 : starEach [a] X.env = (false, eval a X.env) :: starEach [] X.env := by rfl) :
    QE S X (.Call (.Name "tuple" p1) [.Call (.Name "range" p2) [a] [] pos2] [] pos) (mRgL1 .tup ma) :=
  pe_weak (pe_tupRg hc hg hm (prg_1 hg2 hm2 ha n2) n1) fun σ H Q ⟨G, F, env, g, q⟩ => ⟨G, F, env, g, M.wp_mono (M.wpb q) fun d q v G1 F1 H1 e1 g1 r1 => by
    obtain ⟨i, ei, q1⟩ := asI_wp (M.wpb q)
    subst ei
    obtain rfl := r1.int g1
    split at q1
    · have ok := rgOk_iff (by assumption)
      exact ⟨i, rfl, ok, fun t ht => (post_shift e1 q1).tup g1 ht (rg_rpl _ _) (rgV_le ok)⟩
    · exact q1.elim⟩
end
end DL

set_option Elab.async false
set_option linter.all false
set_option maxRecDepth 100000
/-! DL6: targets, what is walked, statements, loops. -/
namespace DL
open PySem PySem.Spec L2
open PyProof.Rows hiding St

/-- how a block ends -/
inductive Fl where
  | nx | bk | ct | rt (d : D)
abbrev DS := DEnv → M (Fl × DEnv)
abbrev DG := D → DEnv → M DEnv
abbrev DI := DEnv → M (List D)
def EndD (S : SA) (D' : Ends) (F : Hp) (σ : L2.St) (H : Hp) : Fl → Prop
  | .nx => D'.nx σ H
  | .bk => D'.bk σ H
  | .ct => D'.ct σ H
  | .rt d => ∀ v, Rp S F d v → D'.rt v H
def PostS (S : SA) (G F : Hp) (D' : Ends) (r : Fl × DEnv) : Prop := ∀ σ G' F' H', Ext G F G' F' → Good S G' F' σ H' r.2 → EndD S D' F' σ H' r.1
def TS_ (S : SA) (m : DS) : TS := fun D' σ H => ∃ G F env, Good S G F σ H env ∧ (m env).wp (PostS S G F D')
def QS (S : SA) (X : Cx) (st : Stmt) (m : DS) : Prop := PS X st (TS_ S m)
def QSs (S : SA) (X : Cx) (sts : List Stmt) (m : DS) : Prop := PSs X sts (TS_ S m)
def wipeE (env : DEnv) : List Nat → DEnv
  | [] => env
  | v :: vs => (wipeE env vs).set v none
/-- only the names at ws are stored -/
def Only (ws : List Nat) (σ : L2.St) (env : DEnv) (σ' : L2.St) (env' : DEnv) : Prop := wipe σ' ws = wipe σ ws ∧ wipeE env' ws = wipeE env ws
def TG_ (S : SA) (ws : List Nat) (m : DG) : TG := fun v σ H Q => ∃ G F env d, Good S G F σ H env ∧ Rp S F d v ∧ (m d env).wp fun env' => ∀ σ', Only ws σ env σ' env' → Good S G F σ' H env' → Q σ' H
def QG (S : SA) (ws : List Nat) (X : Cx) (tg : Expr) (m : DG) : Prop := PG X tg (TG_ S ws m)
abbrev DGs := List D → DEnv → M DEnv
def TGs_ (S : SA) (ws : List Nat) (m : DGs) : TGs := fun vs σ H Q => ∃ G F env ds, Good S G F σ H env ∧ RpL S F ds vs ∧ (m ds env).wp fun env' => ∀ σ', Only ws σ env σ' env' → Good S G F σ' H env' → Q σ' H
def QGs (S : SA) (ws : List Nat) (X : Cx) (ts : List Expr) (m : DGs) : Prop := PGs X ts (TGs_ S ws m)
theorem pgs_weak {X : Cx} {es : List Expr} {t t' : TGs} (h : PGs X es t) (w : ∀ v σ H Q, t' v σ H Q → t v σ H Q) : PGs X es t' := ⟨fun pins s σ H v u Q I r q => h.run pins s σ H v u Q I r (w v σ H Q q)⟩

section
variable {S : SA} {X : Cx} {G F G' F' H H' : Hp} {σ : L2.St} {env : DEnv} {d : D} {v : V} {p : Addr} {Q : VK} {m ma mb mc : DE} {t ta tb : DT} {ms : DA} {a b c e : Expr} {es rest : List Expr} {pos pp : Pos} {x : Str} {i : Nat}
/-! ### storing at a name -/
theorem Good.setVal (g : Good S G F σ H env) (r : Rp S F d v) : Good S G F (σ.set i (some v)) H (env.set i (some (.val d))) := by
  refine ⟨g.kp, g.fg, g.st, g.ns, g.nc, by rw [List.length_set, List.length_set]; exact g.len, fun j sl e => ?_, fun j k dj dk a e1 e2 e3 e4 => ?_⟩
  · by_cases hij : i = j
    · subst hij
      have hi : i < env.length := by
        rcases Nat.lt_or_ge i env.length with h | h
        · exact h
        · rw [List.getElem?_eq_none (by rw [List.length_set]; exact h)] at e; cases e
      rw [List.getElem?_set_self hi] at e
      cases e
      exact ⟨v, List.getElem?_set_self (by rw [g.len]; exact hi), r⟩
    · rw [List.getElem?_set_ne hij] at e
      have q := g.slot j sl e
      cases sl with
      | val d' =>
        obtain ⟨u, h1, h2⟩ := q
        exact ⟨u, by rw [List.getElem?_set_ne hij]; exact h1, h2⟩
      | bor d' =>
        obtain ⟨u, h1, h2⟩ := q
        exact ⟨u, by rw [List.getElem?_set_ne hij]; exact h1, h2⟩
      | own d' =>
        obtain ⟨a, h1, h2⟩ := q
        exact ⟨a, by rw [List.getElem?_set_ne hij]; exact h1, h2⟩
  · have nj : i ≠ j := by
      rintro rfl
      rcases Nat.lt_or_ge i env.length with h | h
      · rw [List.getElem?_set_self h] at e1; cases e1
      · rw [List.getElem?_eq_none (by rw [List.length_set]; exact h)] at e1; cases e1
    have nk : i ≠ k := by
      rintro rfl
      rcases Nat.lt_or_ge i env.length with h | h
      · rw [List.getElem?_set_self h] at e2; cases e2
      · rw [List.getElem?_eq_none (by rw [List.length_set]; exact h)] at e2; cases e2
    rw [List.getElem?_set_ne nj] at e1 e3
    rw [List.getElem?_set_ne nk] at e2 e4
    exact g.dist j k dj dk a e1 e2 e3 e4
theorem Good.setOwn (g : Good S G F σ H env) (f : FreshR S G F σ H env p d) : Good S G F (σ.set i (some (.ref p))) H (env.set i (some (.own d))) := by
  obtain ⟨n, n1, n2, hs, ow⟩ := f
  have hi : ∀ {j : Nat} {sl : Sl}, (env.set i (some sl))[i]? = some (some sl) → i < env.length := fun {j sl} e => by
    rcases Nat.lt_or_ge i env.length with h | h
    · exact h
    · rw [List.getElem?_eq_none (by rw [List.length_set]; exact h)] at e; cases e
  refine ⟨g.kp, g.fg, g.st, g.ns, g.nc, by rw [List.length_set, List.length_set]; exact g.len, fun j sl e => ?_, fun j k dj dk a e1 e2 e3 e4 => ?_⟩
  · by_cases hij : i = j
    · subst hij
      have hi : i < env.length := by
        rcases Nat.lt_or_ge i env.length with h | h
        · exact h
        · rw [List.getElem?_eq_none (by rw [List.length_set]; exact h)] at e; cases e
      rw [List.getElem?_set_self hi] at e
      cases e
      exact ⟨p, List.getElem?_set_self (by rw [g.len]; exact hi), n, n1, n2, ow⟩
    · rw [List.getElem?_set_ne hij] at e
      have q := g.slot j sl e
      cases sl with
      | val d' =>
        obtain ⟨u, h1, h2⟩ := q
        exact ⟨u, by rw [List.getElem?_set_ne hij]; exact h1, h2⟩
      | bor d' =>
        obtain ⟨u, h1, h2⟩ := q
        exact ⟨u, by rw [List.getElem?_set_ne hij]; exact h1, h2⟩
      | own d' =>
        obtain ⟨a, h1, h2⟩ := q
        exact ⟨a, by rw [List.getElem?_set_ne hij]; exact h1, h2⟩
  · by_cases nj : i = j
    · by_cases nk : i = k
      · rw [← nj, ← nk]
      · subst nj
        rw [List.getElem?_set_ne nk] at e2 e4
        have hi : i < env.length := by
          rcases Nat.lt_or_ge i env.length with h | h
          · exact h
          · rw [List.getElem?_eq_none (by rw [List.length_set]; exact h)] at e1; cases e1
        rw [List.getElem?_set_self (by rw [g.len]; exact hi)] at e3
        cases e3
        exact absurd e4 (hs k dk e2)
    · by_cases nk : i = k
      · subst nk
        rw [List.getElem?_set_ne nj] at e1 e3
        have hi : i < env.length := by
          rcases Nat.lt_or_ge i env.length with h | h
          · exact h
          · rw [List.getElem?_eq_none (by rw [List.length_set]; exact h)] at e2; cases e2
        rw [List.getElem?_set_self (by rw [g.len]; exact hi)] at e4
        cases e4
        exact absurd e3 (hs j dj e1)
      · rw [List.getElem?_set_ne nj] at e1 e3
        rw [List.getElem?_set_ne nk] at e2 e4
        exact g.dist j k dj dk a e1 e2 e3 e4
/-- an own list (or dict) from now on stands still -/
theorem Good.frzCore {a : Addr} {o : HO} (g : Good S G F σ H env) (e : env[i]? = some (some (.own d))) (h1 : σ[i]? = some (some (.ref a))) (h2 : G a = none) (h3 : a ≠ S.sa) (h4 : a ≠ S.ca) (hk : ∀ b, b ≠ a → H' b = H b) (ho : H' a = some o) (r : Rp S (upd F a o) d (.ref a)) :
    ∃ G' F', Ext G F G' F' ∧ Good S G' F' σ H' (env.set i (some (.val d))) := by
  have hi : i < env.length := (List.getElem?_eq_some_iff.mp e).1
  have nf : F a = none := g.fg.no h2
  refine ⟨upd G a o, upd F a o, ⟨sub_upd h2, sub_upd nf, fun b hb hb' => ?_⟩, ⟨fun b u q => ?_, fun b u q => ?_, ⟨g.st.1, ?_⟩, ?_, ?_, by rw [List.length_set]; exact g.len, fun j sl q => ?_, fun j k dj dk b e1 e2 e3 e4 => ?_⟩⟩
  · have na : b ≠ a := fun z => hb' (by rw [z]; exact h2)
    rw [upd_ne na]; exact hb
  · by_cases z : b = a
    · subst z; rw [upd_same] at q; cases q; exact ho
    · rw [upd_ne z] at q; rw [hk b z]; exact g.kp b u q
  · by_cases z : b = a
    · subst z; rw [upd_same] at q ⊢; exact q
    · rw [upd_ne z] at q ⊢; exact g.fg b u q
  · obtain ⟨_, n, cs, q1, q2, q3⟩ := g.st
    exact ⟨n, cs, by rw [hk _ h3.symm]; exact q1, by rw [hk _ h4.symm]; exact q2, q3⟩
  · rw [upd_ne h3.symm]; exact g.ns
  · rw [upd_ne h4.symm]; exact g.nc
  · by_cases hij : i = j
    · subst hij
      rw [List.getElem?_set_self hi] at q
      cases q
      exact ⟨_, h1, r⟩
    · rw [List.getElem?_set_ne hij] at q
      have w := g.slot j sl q
      cases sl with
      | val d' =>
        obtain ⟨u, w1, w2⟩ := w
        exact ⟨u, w1, w2.mono (sub_upd nf)⟩
      | bor d' =>
        obtain ⟨u, w1, w2⟩ := w
        exact ⟨u, w1, w2.mono (sub_upd h2) (sub_upd nf)⟩
      | own d' =>
        obtain ⟨b, w1, w2, w3, w4, w5⟩ := w
        have nb : b ≠ a := by
          rintro rfl
          exact hij (g.dist i j _ _ b e q h1 w1)
        exact ⟨b, w1, by rw [upd_ne nb]; exact w2, w3, w4, ownR_mono (sub_upd nf) (fun o z => by rw [hk b nb]; exact z) w5⟩
  · have nj : i ≠ j := by
      rintro rfl
      rw [List.getElem?_set_self hi] at e1; cases e1
    have nk : i ≠ k := by
      rintro rfl
      rw [List.getElem?_set_self hi] at e2; cases e2
    rw [List.getElem?_set_ne nj] at e1
    rw [List.getElem?_set_ne nk] at e2
    exact g.dist j k dj dk b e1 e2 e3 e4
theorem Good.frzAt (g : Good S G F σ H env) (e : env[i]? = some (some (.own d))) : ∃ p, Lk p H fun H' => ∃ G' F', Ext G F G' F' ∧ Good S G' F' σ H' (env.set i (some (.val d))) := by
  obtain ⟨a, h1, h2, h3, h4, h5⟩ := g.slot i _ e
  rcases ownR_frz (g.fg.no h2) h5 with ⟨o, ho, r⟩ | ⟨u, hu, mu, r⟩
  · exact ⟨a, .inl (g.frzCore e h1 h2 h3 h4 (fun _ _ => rfl) ho r)⟩
  · exact ⟨a, .inr ⟨u, hu, mu, fun od => g.frzCore e h1 h2 h3 h4 (fun b hb => upd_ne hb) upd_same (r od)⟩⟩
/-- a new object, kept and read from now on -/
theorem Good.newFrz (g : Good S G F σ H env) (hp : H p = none) (o : HO) : Ext G F (upd G p o) (upd F p o) ∧ Good S (upd G p o) (upd F p o) σ (upd H p o) env := by
  obtain ⟨g', x⟩ := (g.new hp o).frz upd_same (g.kp.no hp) (g.stNe hp).1 (g.stNe hp).2 (g.ownNe hp)
  exact ⟨x, g'⟩

/-! ### targets -/
theorem wipe_set {x : Option V} : ∀ {ws : List Nat} {i : Nat} {σ : L2.St}, i ∈ ws → wipe (σ.set i x) ws = wipe σ ws
  | w :: ws, i, σ, h => by
    show (wipe (σ.set i x) ws).set w none = (wipe σ ws).set w none
    by_cases hm : i ∈ ws
    · rw [wipe_set hm]
    · rcases List.mem_cons.mp h with e | e
      · subst e
        have out : ∀ (us : List Nat) (σ : L2.St), i ∉ us → wipe (σ.set i x) us = (wipe σ us).set i x := by
          intro us
          induction us with
          | nil => intro σ _; rfl
          | cons u us ih =>
            intro σ hu
            show (wipe (σ.set i x) us).set u none = ((wipe σ us).set u none).set i x
            rw [ih σ (fun z => hu (List.mem_cons_of_mem _ z)), List.set_comm _ _ (fun e => hu (by rw [e]; exact List.mem_cons_self ..))]
        rw [out ws σ hm, List.set_set]
      · exact absurd e hm
theorem wipeE_set {x : Option Sl} : ∀ {ws : List Nat} {i : Nat} {env : DEnv}, i ∈ ws → wipeE (env.set i x) ws = wipeE env ws
  | w :: ws, i, σ, h => by
    show (wipeE (σ.set i x) ws).set w none = (wipeE σ ws).set w none
    by_cases hm : i ∈ ws
    · rw [wipeE_set hm]
    · rcases List.mem_cons.mp h with e | e
      · subst e
        have out : ∀ (us : List Nat) (σ : DEnv), i ∉ us → wipeE (σ.set i x) us = (wipeE σ us).set i x := by
          intro us
          induction us with
          | nil => intro σ _; rfl
          | cons u us ih =>
            intro σ hu
            show (wipeE (σ.set i x) us).set u none = ((wipeE σ us).set u none).set i x
            rw [ih σ (fun z => hu (List.mem_cons_of_mem _ z)), List.set_comm _ _ (fun e => hu (by rw [e]; exact List.mem_cons_self ..))]
        rw [out ws σ hm, List.set_set]
      · exact absurd e hm
def gV (i : Nat) : DG := fun d env => .ret (env.set i (some (.val d)))
theorem qgv {ws : List Nat} (i : Nat) {x : Str} (hN : X.N.Nodup) (hw : i ∈ ws := by decide) (hi : X.N[i]? = some x := by rfl) (hx : Loc X.env.scope x := by first | exact Or.inl rfl | exact Or.inr rfl) (hf : X.fn x = true ∨ X.env.scope.names.lookup x = some .local := by first | exact .inl rfl | exact .inr rfl) : QG S ws X (.Name x pos) (gV i) :=
  pg_weak (pg_name hN hi hx hf) fun v σ H Q ⟨G, F, env, d, g, r, q⟩ => q _ ⟨wipe_set hw, wipeE_set hw⟩ (g.setVal r)
def gsNil : DGs := fun ds env => match ds with
  | [] => .ret env
  | _ :: _ => .fail
def gsCons (g : DG) (gs : DGs) : DGs := fun ds env => match ds with
  | [] => .fail
  | d :: ds => g d env >>= gs ds
theorem qgs_nil {ws : List Nat} : QGs S ws X [] gsNil := pgs_weak pgs_nil fun vs σ H Q ⟨G, F, env, ds, g, r, q⟩ => by
  cases r with
  | nil => exact ⟨rfl, q _ ⟨rfl, rfl⟩ g⟩
  | cons _ _ => exact q.elim
theorem qgs_cons {ws : List Nat} {g1 : DG} {gs : DGs} (h1 : QG S ws X e g1) (h2 : QGs S ws X es gs) (hs : (assignEach (e :: es) X.env).map (·.2) = assign e X.env :: (assignEach es X.env).map (·.2) := by rfl) : QGs S ws X (e :: es) (gsCons g1 gs) :=
  pgs_weak (pgs_cons h1 h2 hs) fun vs σ H Q ⟨G, F, env, ds, g, r, q⟩ => by
    cases r with
    | nil => exact q.elim
    | cons r t => exact ⟨_, _, rfl, G, F, env, _, g, r, M.wp_mono (M.wpb q) fun env' q σ' o' g' => ⟨G, F, env', _, g', t, M.wp_mono q fun env2 q σ2 o2 g2 => q σ2 ⟨o2.1.trans o'.1, o2.2.trans o'.2⟩ g2⟩⟩
def gT (n : Nat) (gs : DGs) : DG := fun d env => match d with
  | .tup xs => if xs.length = n then gs xs env else .fail
  | _ => .fail
theorem qgt {ws : List Nat} {k : Nat} {gs : DGs} (n : Nat) (h : QGs S ws X es gs) (hc : X.calm = true := by rfl) (hn : (assignEach es X.env).length = n := by rfl) (hst : (assignEach es X.env).findIdx? (·.1) = none := by rfl) : QG S ws X (.Tuple es k pos) (gT n gs) :=
  pg_weak (pg_tup hc h hn hst) fun v σ H Q ⟨G, F, env, d, g, r, q⟩ => by
    cases d with
    | tup xs =>
      cases r with
      | tup h1 h2 h3 =>
        simp only [gT] at q
        split at q
        · exact ⟨_, _, rfl, .of (g.fh _ _ h1), by rw [← h2.len]; assumption, G, F, env, _, g, h2, q⟩
        · exact q.elim
    | _ => exact q.elim

/-! ### small statements -/
def mSetV (i : Nat) (m : DE) : DS := fun env => m env >>= fun d => .ret (.nx, env.set i (some (.val d)))
def mSetO (i : Nat) (m : DE) : DS := fun env => m env >>= fun d => .ret (.nx, env.set i (some (.own d)))
theorem qset (i : Nat) {x : Str} {pos' : Pos} (hN : X.N.Nodup) (he : QE S X e m) (hi : X.N[i]? = some x := by rfl) (hx : Loc X.env.scope x := by first | exact Or.inl rfl | exact Or.inr rfl) (hs : swapsWith e (some (.Name x pos')) pos.line X.env = pure false := by rfl)
    (hf : X.fn x = true ∨ X.env.scope.names.lookup x = some .local := by first | exact .inl rfl | exact .inr rfl) : QS S X (.Assign [.Name x pos'] e pos) (mSetV i m) :=
  ps_weak (ps_set hN hi hx he hs hf) fun D' σ H ⟨G, F, env, g, q⟩ => ⟨G, F, env, g, M.wp_mono (M.wpb q) fun d q v G1 F1 H1 e1 g1 r1 => q _ G1 F1 H1 e1 (g1.setVal r1)⟩
theorem qsetO (i : Nat) {x : Str} {pos' : Pos} (hN : X.N.Nodup) (he : QF S X e m) (hi : X.N[i]? = some x := by rfl) (hx : Loc X.env.scope x := by first | exact Or.inl rfl | exact Or.inr rfl) (hs : swapsWith e (some (.Name x pos')) pos.line X.env = pure false := by rfl)
    (hf : X.fn x = true ∨ X.env.scope.names.lookup x = some .local := by first | exact .inl rfl | exact .inr rfl) : QS S X (.Assign [.Name x pos'] e pos) (mSetO i m) :=
  ps_weak (ps_set hN hi hx he hs hf) fun D' σ H ⟨G, F, env, g, q⟩ => ⟨G, F, env, g, M.wp_mono (M.wpb q) fun d q p G1 F1 H1 e1 g1 r1 => q _ G1 F1 H1 e1 (g1.setOwn r1)⟩
def mAsg (g : DG) (m : DE) : DS := fun env => m env >>= fun d => g d env >>= fun env' => .ret (.nx, env')
theorem qasg (ws : List Nat) {tg : Expr} {gg : DG} (he : QE S X e m) (hg : QG S ws X tg gg) (hs : swapsWithSole [tg] e pos.line X.env = pure false := by rfl) (hw : swappedStores [tg] e X.env = pure none := by rfl)
    (h1 : (assignEach [tg] X.env).map (·.2) = [assign tg X.env] := by rfl) : QS S X (.Assign [tg] e pos) (mAsg gg m) :=
  ps_weak (ps_asg he hg hs hw h1) fun D' σ H ⟨G, F, env, g, q⟩ => ⟨G, F, env, g, M.wp_mono (M.wpb q) fun d q v G1 F1 H1 e1 g1 r1 => ⟨G1, F1, env, d, g1, r1, M.wp_mono (M.wpb q) fun env' q σ' _ g' => q σ' G1 F1 H1 e1 g'⟩⟩
/-- a, b = x, y -/
def mPar (i j : Nat) (ms : DA) : DS := fun env => ms env >>= fun ds => match ds with
  | [d, d'] => .ret (.nx, (env.set i (some (.val d))).set j (some (.val d')))
  | _ => .fail
theorem qpar (i j : Nat) {x y : Str} {px py pt : Pos} {kt k2 pt2} (hN : X.N.Nodup) (ha : QA S X [a, b] ms) (hi : X.N[i]? = some x := by rfl) (hj : X.N[j]? = some y := by rfl) (hij : i ≠ j := by decide)
    (hx : X.env.scope.names.lookup x = some .local := by rfl) (hy : X.env.scope.names.lookup y = some .local := by rfl) (hc : X.calm = true := by rfl)
    (hw : swappedStores [.Tuple [.Name x px, .Name y py] kt pt] (.Tuple [a, b] k2 pt2) X.env = pure (some [x, y]) := by rfl)
    (hs : swapsWithSole [.Tuple [.Name x px, .Name y py] kt pt] (.Tuple [a, b] k2 pt2) pos.line X.env = pure false := by rfl) :
    QS S X (.Assign [.Tuple [.Name x px, .Name y py] kt pt] (.Tuple [a, b] k2 pt2) pos) (mPar i j ms) :=
  ps_weak (ps_par hc hN hi hj hij hx hy ha hw hs) fun D' σ H ⟨G, F, env, g, q⟩ => ⟨G, F, env, g, M.wp_mono (M.wpb q) fun ds q vs G1 F1 H1 e1 g1 r1 => by
    cases r1 with
    | nil => exact q.elim
    | cons r t =>
      cases t with
      | nil => exact q.elim
      | cons r' t =>
        cases t with
        | nil => exact ⟨_, _, rfl, q _ G1 F1 H1 e1 ((g1.setVal r).setVal r')⟩
        | cons _ _ => exact q.elim⟩
def mPar3 (i j l : Nat) (ms : DA) : DS := fun env => ms env >>= fun ds => match ds with
  | [d, d', d''] => .ret (.nx, ((env.set i (some (.val d))).set j (some (.val d'))).set l (some (.val d'')))
  | _ => .fail
def mExpr (m : DE) : DS := fun env => m env >>= fun _ => .ret (.nx, env)
theorem qexpr (he : QE S X e m) (hs : swapsWith e none pos.line X.env = pure false := by rfl) : QS S X (.Expr e pos) (mExpr m) :=
  ps_weak (ps_expr he hs) fun D' σ H ⟨G, F, env, g, q⟩ => ⟨G, F, env, g, M.wp_mono (M.wpb q) fun d q v G1 F1 H1 e1 g1 r1 => q σ G1 F1 H1 e1 g1⟩
def mRet (m : DE) : DS := fun env => m env >>= fun d => .ret (.rt d, env)
theorem qret (he : QE S X e m) : QS S X (.Return (some e) pos) (mRet m) :=
  ps_weak (ps_ret he) fun D' σ H ⟨G, F, env, g, q⟩ => ⟨G, F, env, g, M.wp_mono (M.wpb q) fun d q v G1 F1 H1 e1 g1 r1 => q σ G1 F1 H1 e1 g1 v r1⟩
def mRetN : DS := fun env => .ret (.rt .non, env)
theorem qretN : QS S X (.Return none pos) mRetN := ps_weak ps_retN fun D' σ H ⟨G, F, env, g, q⟩ => q σ G F H (Ext.refl _ _) g .non .non
def mPass : DS := fun env => .ret (.nx, env)
def mBrk : DS := fun env => .ret (.bk, env)
def mCnt : DS := fun env => .ret (.ct, env)
theorem qpass : QS S X (.Pass pos) mPass := ps_weak ps_pass fun D' σ H ⟨G, F, env, g, q⟩ => q σ G F H (Ext.refl _ _) g
theorem qbreak : QS S X (.Break pos) mBrk := ps_weak ps_break fun D' σ H ⟨G, F, env, g, q⟩ => q σ G F H (Ext.refl _ _) g
theorem qcontinue : QS S X (.Continue pos) mCnt := ps_weak ps_continue fun D' σ H ⟨G, F, env, g, q⟩ => q σ G F H (Ext.refl _ _) g
/-- a way that is never walked: nothing is told -/
def mNever : DS := fun _ => .fail
theorem qnever {st : Stmt} : QS S X st mNever := ps_weak ps_never fun D' σ H ⟨G, F, env, g, q⟩ => q.elim
theorem qsnever {sts : List Stmt} : QSs S X sts mNever := pss_weak pss_never fun D' σ H ⟨G, F, env, g, q⟩ => q.elim
/-! ### blocks -/
def mSeq (m1 m2 : DS) : DS := fun env => m1 env >>= fun r => match r.1 with
  | .nx => m2 r.2
  | f => .ret (f, r.2)
variable {D' : Ends}
theorem postS_shift {G1 F1 : Hp} {r : Fl × DEnv} (x : Ext G F G1 F1) (h : PostS S G F D' r) : PostS S G1 F1 D' r := fun σ G' F' H' e g => h σ G' F' H' (x.trans e) g
theorem qs_nil : QSs S X [] mPass := pss_weak pss_nil fun D' σ H ⟨G, F, env, g, q⟩ => q σ G F H (Ext.refl _ _) g
theorem qs_one {st : Stmt} {m : DS} (h : QS S X st m) : QSs S X [st] m := pss_one h
theorem qs_cons {st : Stmt} {sts : List Stmt} {m1 m2 : DS} (h1 : QS S X st m1) (h2 : QSs S X sts m2) : QSs S X (st :: sts) (mSeq m1 m2) :=
  pss_weak (pss_cons h1 h2) fun D' σ H ⟨G, F, env, g, q⟩ => ⟨G, F, env, g, M.wp_mono (M.wpb q) fun r q σ' G' F' H' e g' => by
    obtain ⟨f, env'⟩ := r
    cases f with
    | nx => exact ⟨G', F', env', g', M.wp_mono q fun _ => postS_shift e⟩
    | bk => exact (show PostS S G F D' (.bk, env') from q) σ' G' F' H' e g'
    | ct => exact (show PostS S G F D' (.ct, env') from q) σ' G' F' H' e g'
    | rt d => exact (show PostS S G F D' (.rt d, env') from q) σ' G' F' H' e g'⟩
/-- from here on the list at name i stands still -/
def mFrz (i : Nat) (m : DS) : DS := fun env => match env[i]? with
  | some (some (.own d)) => m (env.set i (some (.val d)))
  | _ => m env
theorem pss_lk {sts : List Stmt} {t : TS} (h : PSs X sts t) : PSs X sts (fun D' σ H => ∃ p, Lk p H (t D' σ)) := ⟨fun pins s σ H D' I q => by
  obtain ⟨p, q | ⟨u, hu, mu, q⟩⟩ := q
  · exact h.run pins s σ H D' I q
  · obtain ⟨od, I2⟩ := I.lock hu mu
    exact h.run pins s σ _ D' I2 (q od)⟩
theorem Lk.mono {R R' : Hp → Prop} (h : Lk p H R) (k : ∀ H, R H → R' H) : Lk p H R' := by
  rcases h with h | ⟨u, hu, mu, h⟩
  · exact .inl (k _ h)
  · exact .inr ⟨u, hu, mu, fun od => k _ (h od)⟩
theorem qfrz (i : Nat) {sts : List Stmt} {m : DS} (h : QSs S X sts m) : QSs S X sts (mFrz i m) := pss_weak (pss_lk h) fun D' σ H ⟨G, F, env, g, q⟩ => by
  unfold mFrz at q
  split at q
  · rename_i d e
    obtain ⟨p, k⟩ := g.frzAt e
    exact ⟨p, k.mono fun H' ⟨G', F', x, g'⟩ => ⟨G', F', _, g', M.wp_mono q fun _ => postS_shift x⟩⟩
  · exact ⟨0, .inl ⟨G, F, env, g, q⟩⟩
def mIf (t : DT) (m1 m2 : DS) : DS := fun env => t env >>= fun k => if k then m1 env else m2 env
theorem qif {c : Expr} {s1 s2 : List Stmt} {m1 m2 : DS} (hc : QT S X c t) (h1 : QSs S X s1 m1) (h2 : QSs S X s2 m2) : QS S X (.If c s1 s2 pos) (mIf t m1 m2) :=
  ps_weak (ps_if hc h1 h2) fun D' σ H ⟨G, F, env, g, q⟩ => ⟨G, F, env, g, M.wp_mono (M.wpb q) fun k q G1 F1 H1 e1 g1 => by
    cases k with
    | true => rw [if_pos rfl] at q ⊢; exact ⟨G1, F1, env, g1, M.wp_mono q fun _ => postS_shift e1⟩
    | false => rw [if_neg (by decide)] at q ⊢; exact ⟨G1, F1, env, g1, M.wp_mono q fun _ => postS_shift e1⟩⟩
/-! ### while: at most n turns are told -/
def mWhile (t : DT) (mb : DS) : Nat → DS
  | 0 => fun _ => .fail
  | n + 1 => fun env => t env >>= fun k => if k then mb env >>= fun r => (match r.1 with
    | .nx => mWhile t mb n r.2
    | .ct => mWhile t mb n r.2
    | .bk => .ret (.nx, r.2)
    | .rt d => .ret (.rt d, r.2)) else .ret (.nx, env)
theorem qwhile (n : Nat) {c : Expr} {body : List Stmt} {mb : DS} (hc : QT S X c t) (hb : QSs S X body mb) (hp : PassesOwn (model X.prog X.w) X.A X.env X.xe := by exact PassesOwn.never) : QS S X (.While c body [] pos) (mWhile t mb n) :=
  ps_weak (ps_while hp hc hb) fun D' σ H ⟨G, F, env, g, q⟩ => by
    refine ⟨fun m σ H => ∃ G2 F2 env2, Ext G F G2 F2 ∧ Good S G2 F2 σ H env2 ∧ (mWhile t mb m env2).wp (PostS S G F D'), ⟨n, G, F, env, Ext.refl _ _, g, q⟩, fun m σ H ⟨G2, F2, env2, x2, g2, q⟩ => ?_⟩
    cases m with
    | zero => exact q.elim
    | succ m =>
      refine ⟨G2, F2, env2, g2, M.wp_mono (M.wpb q) fun k q G3 F3 H3 e3 g3 => ?_⟩
      cases k with
      | false =>
        rw [if_neg (by decide)] at q ⊢
        exact q σ G3 F3 H3 (x2.trans e3) g3
      | true =>
        rw [if_pos rfl] at q ⊢
        refine ⟨fun σ H => ∃ G2 F2 env2, Ext G F G2 F2 ∧ Good S G2 F2 σ H env2 ∧ (mWhile t mb m env2).wp (PostS S G F D'), fun σ' H' h => ⟨m, Nat.lt_succ_self m, h⟩, G3, F3, env2, g3, M.wp_mono (M.wpb q) fun r q σ4 G4 F4 H4 e4 g4 => ?_⟩
        obtain ⟨f, env4⟩ := r
        cases f with
        | nx => exact ⟨G4, F4, env4, x2.trans (e3.trans e4), g4, q⟩
        | ct => exact ⟨G4, F4, env4, x2.trans (e3.trans e4), g4, q⟩
        | bk => exact q σ4 G4 F4 H4 (x2.trans (e3.trans e4)) g4
        | rt d => exact q σ4 G4 F4 H4 (x2.trans (e3.trans e4)) g4
/-! ### what is walked. imFor: by a for statement; imComp vs: within a comprehension whose own names stand at vs -/
structure IM where
  rd : SA → Hp → L2.St → DEnv → D → V → Prop
  P : Hp → L2.St → DEnv → Hp → L2.St → DEnv → Prop
  ok : DEnv → Bool
def notOwn (env : DEnv) (j : Nat) : Bool := match env[j]? with
  | some (some (.own _)) => false
  | some (some (.bor _)) => false
  | _ => true
def imFor : IM := ⟨fun S F _ _ d v => Rp S F d v, fun F' _ _ F2 _ _ => Sub F' F2, fun _ => true⟩
def imComp (vs : List Nat) : IM := ⟨RdB, fun F' σ env F2 σ2 env2 => Sub F' F2 ∧ ∀ j, j ∉ vs → σ2[j]? = σ[j]? ∧ env2[j]? = env[j]?, fun env => vs.all (notOwn env)⟩
structure IMOk (I : IM) : Prop where
  keep : ∀ {S : SA} {F' F2 : Hp} {σ σ2 : L2.St} {env env2 : DEnv} {d : D} {v : V}, I.ok env = true → I.P F' σ env F2 σ2 env2 → I.rd S F' σ env d v → I.rd S F2 σ2 env2 d v
  toB : ∀ {S : SA} {F : Hp} {σ : L2.St} {env : DEnv} {d : D} {v : V}, I.rd S F σ env d v → RdB S F σ env d v
theorem imForOk : IMOk imFor := ⟨fun _ s r => Rp.mono s r, fun r => .inl r⟩
theorem imCompOk (vs : List Nat) : IMOk (imComp vs) := ⟨fun {S F' F2 σ σ2 env env2 d v} ok s r => by
  rcases r with r | ⟨i, h1, h2⟩
  · exact .inl (r.mono s.1)
  · have ni : i ∉ vs := fun hm => by
      have := List.all_eq_true.mp ok i hm
      rcases h1 with h1 | h1 <;> simp [notOwn, h1] at this
    obtain ⟨q1, q2⟩ := s.2 i ni
    exact .inr ⟨i, h1.imp q2.trans q2.trans, q1.trans h2⟩, fun r => r⟩
def PostX (I : IM) (S : SA) (G F : Hp) (σ : L2.St) (env : DEnv) (Q : VK) (d : D) : Prop := ∀ v G' F' H', Ext G F G' F' → Good S G' F' σ H' env → I.rd S F' σ env d v → Q v H'
def TX_ (I : IM) (S : SA) (m : DE) : TE := fun σ H Q => ∃ G F env, Good S G F σ H env ∧ (m env).wp (PostX I S G F σ env Q)
def QX (I : IM) (S : SA) (X : Cx) (e : Expr) (m : DE) : Prop := PE X e (TX_ I S m)
theorem QE.xf (h : QE S X e m) : QX imFor S X e m := h
theorem QB.xc {vs : List Nat} (h : QB S X e m) : QX (imComp vs) S X e m := h
structure ItsD (S : SA) (J : It) (P : Hp → L2.St → DEnv → Prop) (ds : List D) : Prop where
  go : ∀ (i : Nat) G F σ H env, P F σ env → Good S G F σ H env → i < ds.length → J.go i H
  stop : ∀ (i : Nat) G F σ H env, P F σ env → Good S G F σ H env → ds.length ≤ i → J.stop i H
  yld : ∀ (i : Nat) G F σ H env x H' d, P F σ env → Good S G F σ H env → ds[i]? = some d → J.yld i H x H' → ∃ G' F', Ext G F G' F' ∧ Good S G' F' σ H' env ∧ Rp S F' d x
def TIx (I : IM) (S : SA) (m : DI) : TI := fun σ H R => ∃ G F env, Good S G F σ H env ∧ I.ok env = true ∧ (m env).wp fun ds => ∀ J G' F' H', Ext G F G' F' → Good S G' F' σ H' env → ItsD S J (I.P F' σ env) ds → ds.length ≤ sizeLine → R J H'
def QI (I : IM) (S : SA) (X : Cx) (tg e : Expr) (m : DI) : Prop := PI X tg e (TIx I S m)
/-! a list, a tuple, a text -/
theorem its_list {I : IM} (O : IMOk I) {K : PySem.W.Frag} {xs : List D} {a : Addr} (ok : I.ok env = true) (r : I.rd S F' σ env (.lst xs) (.ref a)) : ItsD S (Itl K a) (I.P F' σ env) xs where
  go := fun i G2 F2 σ2 H2 env2 hp g hi => by
    obtain ⟨p, vs, e, h1, l1, _⟩ := (O.toB (O.keep ok hp r)).lst g
    cases e
    have : i < vs.length := by rw [← l1.len]; exact hi
    exact ⟨vs, vs[i], .of h1, by simp [this]⟩
  stop := fun i G2 F2 σ2 H2 env2 hp g hi => by
    obtain ⟨p, vs, e, h1, l1, _⟩ := (O.toB (O.keep ok hp r)).lst g
    cases e
    exact ⟨vs, .of h1, by rw [← l1.len]; exact hi⟩
  yld := fun i G2 F2 σ2 H2 env2 x H3 d hp g hd y => by
    obtain ⟨p, vs, e, h1, l1, _⟩ := (O.toB (O.keep ok hp r)).lst g
    cases e
    obtain ⟨e, y⟩ := y
    subst e
    obtain ⟨v, hv, rv⟩ := l1.get hd
    have e2 := y vs (.of h1)
    rw [hv] at e2
    cases e2
    exact ⟨G2, F2, Ext.refl _ _, g, rv⟩
theorem its_tup {I : IM} (O : IMOk I) {K : PySem.W.Frag} {xs : List D} {a : Addr} (ok : I.ok env = true) (r : I.rd S F' σ env (.tup xs) (.ref a)) : ItsD S (Itt K a) (I.P F' σ env) xs where
  go := fun i G2 F2 σ2 H2 env2 hp g hi => by
    obtain ⟨p, vs, e, f1, h1, l1, _⟩ := (O.toB (O.keep ok hp r)).tup g
    cases e
    have : i < vs.length := by rw [← l1.len]; exact hi
    exact ⟨vs, vs[i], .of h1, by simp [this]⟩
  stop := fun i G2 F2 σ2 H2 env2 hp g hi => by
    obtain ⟨p, vs, e, f1, h1, l1, _⟩ := (O.toB (O.keep ok hp r)).tup g
    cases e
    exact ⟨vs, .of h1, by rw [← l1.len]; exact hi⟩
  yld := fun i G2 F2 σ2 H2 env2 x H3 d hp g hd y => by
    obtain ⟨p, vs, e, f1, h1, l1, _⟩ := (O.toB (O.keep ok hp r)).tup g
    cases e
    obtain ⟨e, y⟩ := y
    subst e
    obtain ⟨v, hv, rv⟩ := l1.get hd
    have e2 := y vs (.of h1)
    rw [hv] at e2
    cases e2
    exact ⟨G2, F2, Ext.refl _ _, g, rv⟩
def signs (x : Str) : List D := x.cps.toList.map fun c => D.str ⟨#[c]⟩
theorem its_str {P : Hp → L2.St → DEnv → Prop} {x : Str} (ok : PyData.strOk x = true) : ItsD S (L2.Its x) P (signs x) where
  go := fun i G2 F2 σ2 H2 env2 hp g hi => by
    unfold signs at hi
    rw [List.length_map, Array.length_toList] at hi
    exact hi
  stop := fun i G2 F2 σ2 H2 env2 hp g hi => by
    unfold signs at hi
    rw [List.length_map, Array.length_toList] at hi
    exact hi
  yld := fun i G2 F2 σ2 H2 env2 v H3 d hp g hd y => by
    obtain ⟨e, c, hc, ev⟩ := y
    subst e ev
    unfold signs at hd
    rw [List.getElem?_map, Array.getElem?_toList, hc] at hd
    cases hd
    refine ⟨G2, F2, Ext.refl _ _, g, .str _ ?_ (by show 1 ≤ sizeLine; decide)⟩
    unfold PyData.strOk at ok ⊢
    rw [Array.all_eq_true_iff_forall_mem] at ok
    have hm : c ∈ x.cps := Array.mem_of_getElem? hc
    simpa using ok c hm
/-- a list, a tuple or a text, as it comes -/
def iAny (K : PySem.W.Frag) (tl : TE) : TI := fun σ H R => tl σ H fun x H1 => (∃ a, x = .ref a ∧ (∃ xs, SqL K H1 a xs) ∧ R (Itl K a) H1) ∨ (∃ a, x = .ref a ∧ (∃ xs, SqT K H1 a xs) ∧ R (Itt K a) H1) ∨ ∃ y, x = .str y ∧ R (L2.Its y) H1
theorem pi_any {tg l : Expr} {tl : TE} (hl : PE X l tl) : PI X tg l (iAny X.K tl) := by
  refine ⟨fun pins s σ H R I h => ?_⟩
  refine thn (hl.run pins s σ H _ I h) fun v s1 ⟨x, H1, I1, r1, q1⟩ => ?_
  rcases q1 with q1 | q1 | q1
  · obtain ⟨a, e, ⟨xs, hq⟩, q⟩ := q1
    subst e
    cases r1
    obtain ⟨its, rv, p, hz⟩ := I1.list hq
    refine wpAny_pyIter_list p.isList ?_
    refine ⟨s1.heap.objs.size, [s1.heap.objs.size], _, _, H1, rfl, I1.kept (t' := s1.toks) fun b o e => Heap.get?_push_of_some _ e, turn_list a _, ⟨_, Heap.get?_push_size _ rfl, rfl, rfl⟩, fun b hb => ?_, q⟩
    have e : b = s1.heap.objs.size := by simpa using hb
    subst e
    exact I1.fpOk (Nat.le_refl _) (I1.hok.fresh (Nat.le_refl _))
  · obtain ⟨a, e, ⟨xs, hq⟩, q⟩ := q1
    subst e
    cases r1
    obtain ⟨its, rv, p, hz⟩ := I1.tuple hq
    refine wpAny_pyIter_tuple (show s1.heap.IsTuple a its.toArray from p) ?_
    refine ⟨s1.heap.objs.size, [s1.heap.objs.size], _, _, H1, rfl, I1.kept (t' := s1.toks) fun b o e => Heap.get?_push_of_some _ e, turn_tuple a _, ⟨_, Heap.get?_push_size _ rfl, rfl, rfl⟩, fun b hb => ?_, q⟩
    have e : b = s1.heap.objs.size := by simpa using hb
    subst e
    exact I1.fpOk (Nat.le_refl _) (I1.hok.fresh (Nat.le_refl _))
  · obtain ⟨x, e, q⟩ := q1
    subst e
    obtain ⟨t, rfl⟩ := r1
    cases ha : x.cps.all (· < 128)
    · exact wpAny_pyIter_wide ha (pi_one (tk := s1.toks) I1 _ (turn_str _ x t "str_iterator" (.inr rfl)) ⟨_, Heap.get?_push_size _ rfl, rfl, rfl⟩ q)
    · exact wpAny_pyIter_ascii ha (pi_one (tk := s1.toks) I1 _ (turn_str _ x t "str_ascii_iterator" (.inl rfl)) ⟨_, Heap.get?_push_size _ rfl, rfl, rfl⟩ q)
def itemsM : D → M (List D)
  | .lst xs => .ret xs
  | .tup xs => .ret xs
  | .str x => .ret (signs x)
  | _ => .fail
def iOver (m : DE) : DI := fun env => m env >>= itemsM
theorem qi_any {I : IM} (O : IMOk I) {tg l : Expr} (hl : QX I S X l m) : QI I S X tg l (iOver m) :=
  pi_weak (pi_any hl) fun σ H R ⟨G, F, env, g, ok, q⟩ => ⟨G, F, env, g, M.wp_mono (M.wpb q) fun d q v G1 F1 H1 e1 g1 r1 => by
    cases d with
    | lst xs =>
      obtain ⟨p, vs, rfl, h1, l1, z1⟩ := (O.toB r1).lst g1
      exact .inl ⟨p, rfl, ⟨vs, .of h1⟩, q _ G1 F1 H1 e1 g1 (its_list O ok r1) (by rw [l1.len]; exact z1)⟩
    | tup xs =>
      obtain ⟨p, vs, rfl, f1, h1, l1, z1⟩ := (O.toB r1).tup g1
      exact .inr (.inl ⟨p, rfl, ⟨vs, .of h1⟩, q _ G1 F1 H1 e1 g1 (its_tup O ok r1) (by rw [l1.len]; exact z1)⟩)
    | str x =>
      obtain ⟨rfl, ok', z⟩ := (O.toB r1).str g1
      exact .inr (.inr ⟨x, rfl, q _ G1 F1 H1 e1 g1 (its_str ok') (by unfold signs; rw [List.length_map, Array.length_toList]; exact z)⟩)
    | _ => exact q.elim⟩
/-! range -/
theorem its_rng {P : Hp → L2.St → DEnv → Prop} {a b : Int} : ItsD S (Itr a (b - a).toNat) P (rgD a b) where
  go := fun i G2 F2 σ2 H2 env2 hp g hi => by
    unfold rgD at hi
    rw [List.length_map, List.length_range] at hi
    exact hi
  stop := fun i G2 F2 σ2 H2 env2 hp g hi => by
    unfold rgD at hi
    rw [List.length_map, List.length_range] at hi
    exact hi
  yld := fun i G2 F2 σ2 H2 env2 v H3 d hp g hd y => by
    obtain ⟨e, ev⟩ := y
    subst e ev
    unfold rgD at hd
    rw [List.getElem?_map] at hd
    cases hr : (List.range (b - a).toNat)[i]? with
    | none => rw [hr] at hd; cases hd
    | some j =>
      rw [hr] at hd
      obtain ⟨hl, e⟩ := List.getElem?_eq_some_iff.mp hr
      rw [List.getElem_range] at e
      subst e
      cases hd
      exact ⟨G2, F2, Ext.refl _ _, g, .int _⟩
theorem rgD_le {a b : Int} (h : (b - a).toNat ≤ 2 ^ 24) : (rgD a b).length ≤ sizeLine := by
  unfold rgD
  rw [List.length_map, List.length_range, sizeLine_eq]
  exact h
def iRg1 (m : DE) : DI := fun env => m env >>= fun x => asI x >>= fun j => if rgOk 0 j then .ret (rgD 0 j) else .fail
def iRg2 (ma mb : DE) : DI := fun env => ma env >>= fun x => mb env >>= fun y => asI x >>= fun i => asI y >>= fun j => if rgOk i j then .ret (rgD i j) else .fail
theorem qi_rg1 {I : IM} {tg : Expr} (hg : Gl X "range") (hm : X.mg "range" = none) (ha : QB S X a m) (n1 : starEach [a] X.env = (false, eval a X.env) :: starEach [] X.env := by rfl) (hs : starEach [a] X.env = [(false, eval a X.env)] := by rfl) : QI I S X tg (.Call (.Name "range" pp) [a] [] pos) (iRg1 m) :=
  pi_weak (pi_range1 hg hm (pa_cons ha pa_nil n1) hs) fun σ H R ⟨G, F, env, g, ok, q⟩ => ⟨G, F, env, g, M.wp_mono (M.wpb q) fun d q v G1 F1 H1 e1 g1 r1 => by
    obtain ⟨j, ej, q2⟩ := asI_wp (M.wpb q)
    subst ej
    obtain rfl := r1.int g1
    split at q2
    · have ok2 := rgOk_iff (by assumption)
      obtain ⟨_, _, b1, b2, b5⟩ := ok2
      refine ⟨j, rfl, b1, b2, q2 _ G1 F1 H1 e1 g1 ?_ (rgD_le b5)⟩
      have := its_rng (S := S) (P := I.P F1 σ env) (a := 0) (b := j)
      rw [Int.sub_zero] at this
      exact this
    · exact q2.elim⟩
theorem qi_rg2 {I : IM} {tg : Expr} (hg : Gl X "range") (hm : X.mg "range" = none) (ha : QB S X a ma) (hb : QB S X b mb) (n1 : starEach [a, b] X.env = (false, eval a X.env) :: starEach [b] X.env := by rfl) (n2 : starEach [b] X.env = (false, eval b X.env) :: starEach [] X.env := by rfl)
    (hs : starEach [a, b] X.env = [(false, eval a X.env), (false, eval b X.env)] := by rfl) (hs2 : starEach [b] X.env = [(false, eval b X.env)] := by rfl) : QI I S X tg (.Call (.Name "range" pp) [a, b] [] pos) (iRg2 ma mb) :=
  pi_weak (pi_range2 hg hm (pa_cons ha (pa_cons hb pa_nil n2) n1) hs hs2) fun σ H R ⟨G, F, env, g, ok, q⟩ => ⟨G, F, env, g, M.wp_mono (M.wpb q) fun d q v G1 F1 H1 e1 g1 r1 => ⟨G1, F1, env, g1, M.wp_mono (M.wpb q) fun d2 q v2 G2 F2 H2 e2 g2 r2 => by
    obtain ⟨i, ei, q1⟩ := asI_wp (M.wpb q)
    obtain ⟨j, ej, q2⟩ := asI_wp (M.wpb q1)
    subst ei ej
    obtain rfl := r1.int g1
    obtain rfl := r2.int g2
    split at q2
    · have ok2 := rgOk_iff (by assumption)
      obtain ⟨b1, b2, b3, b4, b5⟩ := ok2
      exact ⟨i, j, rfl, ⟨b1, b2, b3, b4⟩, q2 _ G2 F2 H2 (e1.trans e2) g2 its_rng (rgD_le b5)⟩
    · exact q2.elim⟩⟩
/-! enumerate(list) -/
def enumD : Nat → List D → List D
  | _, [] => []
  | i, d :: ds => .tup [.int (i : Int), d] :: enumD (i + 1) ds
theorem enumD_len : ∀ (k : Nat) (ds : List D), (enumD k ds).length = ds.length
  | _, [] => rfl
  | k, d :: ds => congrArg (· + 1) (enumD_len (k + 1) ds)
theorem enumD_get : ∀ (k : Nat) (ds : List D) (i : Nat) (x : D), (enumD k ds)[i]? = some x → ∃ d, ds[i]? = some d ∧ x = .tup [.int ((k + i : Nat) : Int), d]
  | _, [], i, x, h => by simp [enumD] at h
  | k, d :: ds, 0, x, h => by simp [enumD] at h; exact ⟨d, rfl, h.symm⟩
  | k, d :: ds, i + 1, x, h => by
    obtain ⟨e, h1, h2⟩ := enumD_get (k + 1) ds i x (by simpa [enumD] using h)
    exact ⟨e, by simpa using h1, by rw [h2, show k + 1 + i = k + (i + 1) by omega]⟩
theorem its_enum {I : IM} (O : IMOk I) {K : PySem.W.Frag} {xs : List D} {a : Addr} (ok : I.ok env = true) (r : I.rd S F' σ env (.lst xs) (.ref a)) : ItsD S (Ite K a) (I.P F' σ env) (enumD 0 xs) where
  go := fun i G2 F2 σ2 H2 env2 hp g hi => by
    obtain ⟨p, vs, e, h1, l1, _⟩ := (O.toB (O.keep ok hp r)).lst g
    cases e
    have : i < vs.length := by rw [← l1.len]; rw [enumD_len] at hi; exact hi
    exact ⟨vs, vs[i], .of h1, by simp [this]⟩
  stop := fun i G2 F2 σ2 H2 env2 hp g hi => by
    obtain ⟨p, vs, e, h1, l1, _⟩ := (O.toB (O.keep ok hp r)).lst g
    cases e
    exact ⟨vs, .of h1, by rw [← l1.len]; rw [enumD_len] at hi; exact hi⟩
  yld := fun i G2 F2 σ2 H2 env2 x H3 d hp g hd y => by
    obtain ⟨p, vs, e, h1, l1, _⟩ := (O.toB (O.keep ok hp r)).lst g
    cases e
    obtain ⟨T, y, rfl, nT, rfl, fy⟩ := y
    obtain ⟨d', hd', rfl⟩ := enumD_get 0 xs i d hd
    obtain ⟨v, hv, rv⟩ := l1.get hd'
    have e2 := fy vs (.of h1)
    rw [hv] at e2
    cases e2
    obtain ⟨x3, g3⟩ := g.newFrz nT (.tup [.int (i : Nat), y])
    refine ⟨_, _, x3, g3, .tup upd_same (.cons ?_ (.cons (rv.mono x3.f) .nil)) (by show 2 ≤ sizeLine; decide)⟩
    rw [Nat.zero_add]
    exact .int _
def iEnumD (m : DE) : DI := fun env => m env >>= fun x => match x with
  | .lst xs => .ret (enumD 0 xs)
  | _ => .fail
theorem qi_enum {I : IM} (O : IMOk I) {tpos : Pos} {elts : List Expr} {kk : Nat} (hg : Gl X "enumerate") (hm : X.mg "enumerate" = none) (ha : QX I S X a m) (n1 : starEach [a] X.env = (false, eval a X.env) :: starEach [] X.env := by rfl) (hs : starEach [a] X.env = [(false, eval a X.env)] := by rfl) :
    QI I S X (.Tuple elts kk tpos) (.Call (.Name "enumerate" pp) [a] [] pos) (iEnumD m) :=
  pi_weak (pi_enum hg hm (pa_cons ha pa_nil n1) hs) fun σ H R ⟨G, F, env, g, ok, q⟩ => ⟨G, F, env, g, M.wp_mono (M.wpb q) fun d q v G1 F1 H1 e1 g1 r1 => by
    cases d with
    | lst xs =>
      obtain ⟨p, vs, rfl, h1, l1, z1⟩ := (O.toB r1).lst g1
      exact ⟨p, vs, rfl, .of h1, q _ G1 F1 H1 e1 g1 (its_enum O ok r1) (by rw [enumD_len, l1.len]; exact z1)⟩
    | _ => exact q.elim⟩
/-! ### for -/
def mForL (gg : DG) (mb : DS) : List D → DS
  | [] => fun env => .ret (.nx, env)
  | d :: ds => fun env => gg d env >>= fun env1 => mb env1 >>= fun r => match r.1 with
    | .nx => mForL gg mb ds r.2
    | .ct => mForL gg mb ds r.2
    | .bk => .ret (.nx, r.2)
    | .rt d => .ret (.rt d, r.2)
def mFor (mi : DI) (gg : DG) (mb : DS) : DS := fun env => mi env >>= fun ds => mForL gg mb ds env
theorem qfor (ws : List Nat) {tg iter : Expr} {body : List Stmt} {mi : DI} {gg : DG} {mb : DS} (hi : QI imFor S X tg iter mi) (hg : QG S ws X tg gg) (hb : QSs S X body mb) (hp : PassesOwn (model X.prog X.w) X.A X.env X.xe := by exact PassesOwn.never) (hc : X.calm = true := by rfl)
    (hs : ∀ x, foldedSetIterable iter X.env x = pure x := by intro _; rfl) : QS S X (.For tg iter body [] pos) (mFor mi gg mb) :=
  ps_weak (ps_for hp hc hi hg hb hs) fun D' σ H ⟨G, F, env, g, q⟩ => ⟨G, F, env, g, rfl, M.wp_mono (M.wpb q) fun ds q J G1 F1 H1 e1 g1 its _ => by
    refine ⟨fun i m σ H => m = ds.length - i ∧ i ≤ ds.length ∧ ∃ G2 F2 env2, Ext G F G2 F2 ∧ Sub F1 F2 ∧ Good S G2 F2 σ H env2 ∧ (mForL gg mb (ds.drop i) env2).wp (PostS S G F D'), ⟨ds.length, by simp, Nat.zero_le _, G1, F1, env, e1, Sub.refl _, g1, by simpa using q⟩, ?_⟩
    rintro i m σ H ⟨rfl, hi, G2, F2, env2, x2, s2, g2, q⟩
    by_cases hlt : i < ds.length
    · refine .inr ⟨its.go i G2 F2 σ H env2 s2 g2 hlt, fun σ H => ∃ G2 F2 env2, Ext G F G2 F2 ∧ Sub F1 F2 ∧ Good S G2 F2 σ H env2 ∧ (mForL gg mb (ds.drop (i + 1)) env2).wp (PostS S G F D'),
        fun σ' H' h => ⟨ds.length - (i + 1), by omega, rfl, hlt, h⟩, fun x H' y => ?_⟩
      obtain ⟨G3, F3, e3, g3, r3⟩ := its.yld i G2 F2 σ H env2 x H' ds[i] s2 g2 (by simp [hlt]) y
      rw [List.drop_eq_getElem_cons hlt] at q
      refine ⟨G3, F3, env2, ds[i], g3, r3, M.wp_mono (M.wpb q) fun env3 q σ3 _ g3' => ⟨G3, F3, env3, g3', M.wp_mono (M.wpb q) fun r q σ4 G4 F4 H4 e4 g4 => ?_⟩⟩
      have xx := x2.trans (e3.trans e4)
      obtain ⟨f, env4⟩ := r
      cases f with
      | nx => exact ⟨G4, F4, env4, xx, s2.trans (e3.f.trans e4.f), g4, q⟩
      | ct => exact ⟨G4, F4, env4, xx, s2.trans (e3.f.trans e4.f), g4, q⟩
      | bk => exact q σ4 G4 F4 H4 xx g4
      | rt d => exact q σ4 G4 F4 H4 xx g4
    · have e : i = ds.length := by omega
      subst e
      rw [List.drop_length] at q
      exact .inl ⟨its.stop _ G2 F2 σ H env2 s2 g2 (Nat.le_refl _), q σ G2 F2 H x2 g2⟩⟩
end
end DL

set_option Elab.async false
set_option linter.all false
set_option maxRecDepth 100000
/-! DL7: comprehensions, methods of lists, calls of the text's own defs, a def by its body. -/
namespace DL
open PySem PySem.Spec L2
open PyProof.Rows hiding St

section
variable {S : SA} {X : Cx} {G F G' F' H H' : Hp} {σ : L2.St} {env : DEnv} {d : D} {v : V} {p : Addr} {Q : VK} {m ma mb mc : DE} {t ta tb : DT} {ms : DA} {a b c e : Expr} {es rest : List Expr} {pos pp : Pos} {x : Str} {i : Nat}
theorem wipeE_out : ∀ {vs : List Nat} {env : DEnv} {i : Nat}, i ∉ vs → (wipeE env vs)[i]? = env[i]?
  | [], _, _, _ => rfl
  | v :: vs, env, i, h => by
    have h1 : v ≠ i := fun e => h (by rw [e]; exact List.mem_cons_self)
    have h2 : i ∉ vs := fun m => h (List.mem_cons_of_mem _ m)
    unfold wipeE
    rw [List.getElem?_set_ne h1]
    exact wipeE_out h2
theorem wipeE_in : ∀ {vs : List Nat} {env : DEnv} {i : Nat} {sl : Sl}, i ∈ vs → (wipeE env vs)[i]? ≠ some (some sl)
  | v :: vs, env, i, sl, h => fun z => by
    unfold wipeE at z
    by_cases h1 : v = i
    · subst h1
      by_cases hv : v < (wipeE env vs).length
      · rw [List.getElem?_set_self hv] at z; cases z
      · rw [List.getElem?_eq_none (by simpa using hv)] at z; cases z
    · rw [List.getElem?_set_ne h1] at z
      rcases List.mem_cons.mp h with e | e
      · exact h1 e.symm
      · exact wipeE_in e z
theorem wipeE_len (env : DEnv) : ∀ vs : List Nat, (wipeE env vs).length = env.length
  | [] => rfl
  | v :: vs => by unfold wipeE; rw [List.length_set, wipeE_len env vs]
theorem wipe_comm1 (σ : L2.St) (v : Nat) : ∀ vs : List Nat, wipe (σ.set v none) vs = (wipe σ vs).set v none
  | [] => rfl
  | u :: us => by
    unfold wipe
    rw [wipe_comm1 σ v us]
    by_cases h : v = u
    · subst h; rfl
    · rw [List.set_comm _ _ h]
theorem wipe_idem (σ : L2.St) : ∀ vs : List Nat, wipe (wipe σ vs) vs = wipe σ vs
  | [] => rfl
  | v :: vs => by
    show (wipe ((wipe σ vs).set v none) vs).set v none = (wipe σ vs).set v none
    rw [wipe_comm1, wipe_idem σ vs, List.set_set]
theorem wipeE_comm1 (σ : DEnv) (v : Nat) : ∀ vs : List Nat, wipeE (σ.set v none) vs = (wipeE σ vs).set v none
  | [] => rfl
  | u :: us => by
    unfold wipeE
    rw [wipeE_comm1 σ v us]
    by_cases h : v = u
    · subst h; rfl
    · rw [List.set_comm _ _ h]
theorem wipeE_idem (σ : DEnv) : ∀ vs : List Nat, wipeE (wipeE σ vs) vs = wipeE σ vs
  | [] => rfl
  | v :: vs => by
    show (wipeE ((wipeE σ vs).set v none) vs).set v none = (wipeE σ vs).set v none
    rw [wipeE_comm1, wipeE_idem σ vs, List.set_set]
theorem Good.wiped (g : Good S G F σ H env) (vs : List Nat) : Good S G F (wipe σ vs) H (wipeE env vs) := by
  have sl' : ∀ (i : Nat) (sl : Sl), (wipeE env vs)[i]? = some (some sl) → env[i]? = some (some sl) ∧ (wipe σ vs)[i]? = σ[i]? := fun i sl e => by
    have hi : i ∉ vs := fun hm => wipeE_in hm e
    rw [wipeE_out hi] at e
    exact ⟨e, wipe_out hi⟩
  refine ⟨g.kp, g.fg, g.st, g.ns, g.nc, by rw [wipe_length, wipeE_len]; exact g.len, fun i sl e => ?_, fun j k dj dk a e1 e2 e3 e4 => ?_⟩
  · obtain ⟨e1, e2⟩ := sl' i sl e
    have q := g.slot i sl e1
    cases sl with
    | val d => obtain ⟨u, h1, h2⟩ := q; exact ⟨u, e2.trans h1, h2⟩
    | bor d => obtain ⟨u, h1, h2⟩ := q; exact ⟨u, e2.trans h1, h2⟩
    | own d => obtain ⟨u, h1, h2⟩ := q; exact ⟨u, e2.trans h1, h2⟩
  · obtain ⟨f1, f2⟩ := sl' j _ e1
    obtain ⟨f3, f4⟩ := sl' k _ e2
    exact g.dist j k dj dk a f1 f3 (f2.symm.trans e3) (f4.symm.trans e4)
/-- back from a block: the names as they stood -/
theorem Good.back {σ1 : L2.St} {env1 : DEnv} {G1 F1 : Hp} {H1 : Hp} {vs : List Nat} (g : Good S G F σ H env) (ok : vs.all (notOwn env) = true) (o : Only vs (wipe σ vs) (wipeE env vs) σ1 env1) (s : Sub F F1) (g1 : Good S G1 F1 σ1 H1 env1) : Good S G1 F1 σ H1 env := by
  have hs : ∀ j, j ∉ vs → σ1[j]? = σ[j]? ∧ env1[j]? = env[j]? := fun j hj => by
    have e1 : (wipe σ1 vs)[j]? = (wipe (wipe σ vs) vs)[j]? := by rw [o.1]
    have e2 : (wipeE env1 vs)[j]? = (wipeE (wipeE env vs) vs)[j]? := by rw [o.2]
    rw [wipe_out hj, wipe_out hj, wipe_out hj] at e1
    rw [wipeE_out hj, wipeE_out hj, wipeE_out hj] at e2
    exact ⟨e1, e2⟩
  have hv : ∀ (i : Nat) (di : D), env[i]? = some (some (.own di)) → i ∉ vs := fun i di e hm => by
    have := List.all_eq_true.mp ok i hm
    simp [notOwn, e] at this
  refine ⟨g1.kp, g1.fg, g1.st, g1.ns, g1.nc, g.len, fun i sl e => ?_, g.dist⟩
  cases sl with
  | val d => obtain ⟨u, h1, h2⟩ := g.slot i _ e; exact ⟨u, h1, h2.mono s⟩
  | bor d =>
    have hi : i ∉ vs := fun hm => by
      have := List.all_eq_true.mp ok i hm
      simp [notOwn, e] at this
    obtain ⟨q1, q2⟩ := hs i hi
    obtain ⟨u, h1, h2⟩ := g1.slot i _ (q2.trans e)
    exact ⟨u, q1.symm.trans h1, h2⟩
  | own d =>
    have hi := hv i d e
    obtain ⟨q1, q2⟩ := hs i hi
    obtain ⟨u, h1, h2⟩ := g1.slot i _ (q2.trans e)
    exact ⟨u, q1.symm.trans h1, h2⟩
def delH (G : Hp) (p : Addr) : Hp := fun a => if a = p then none else G a
/-- no name that is looked at holds p -/
def NoBor (σ : L2.St) (env : DEnv) (p : Addr) : Prop := ∀ (i : Nat) (di : D), env[i]? = some (some (.bor di)) → σ[i]? ≠ some (some (.ref p))
theorem Good.chg {o o' : HO} (g : Good S G F σ H env) (hp : G p = some o) (hf : F p = none) (hb : NoBor σ env p) : Good S (delH G p) F σ (upd H p o') env := by
  have ns : S.sa ≠ p := fun z => by rw [← z, g.ns] at hp; cases hp
  have nc : S.ca ≠ p := fun z => by rw [← z, g.nc] at hp; cases hp
  refine ⟨fun a u e => ?_, fun a u e => ?_, ⟨g.st.1, ?_⟩, ?_, ?_, g.len, fun i sl e => ?_, g.dist⟩
  · unfold delH at e
    split at e
    · cases e
    · rename_i na; rw [upd_ne na]; exact g.kp a u e
  · have na : a ≠ p := fun z => by rw [z, hf] at e; cases e
    unfold delH
    rw [if_neg na]; exact g.fg a u e
  · obtain ⟨_, n, cs, h1, h2, h3⟩ := g.st
    exact ⟨n, cs, by rw [upd_ne ns]; exact h1, by rw [upd_ne nc]; exact h2, h3⟩
  · unfold delH; rw [if_neg ns]; exact g.ns
  · unfold delH; rw [if_neg nc]; exact g.nc
  · have q := g.slot i sl e
    cases sl with
    | val d => exact q
    | bor d =>
      obtain ⟨u, h1, h2⟩ := q
      refine ⟨u, h1, ?_⟩
      rcases h2 with h2 | ⟨a, ea, h2⟩
      · exact .inl h2
      · subst ea
        have na : a ≠ p := fun z => hb i d e (by rw [h1, z])
        exact .inr ⟨a, rfl, ownR_mono (Sub.refl _) (fun o z => by unfold delH; rw [if_neg na]; exact z) h2⟩
    | own d =>
      obtain ⟨a, h1, h2, h3, h4, h5⟩ := q
      have na : a ≠ p := fun z => by rw [z, hp] at h2; cases h2
      refine ⟨a, h1, ?_, h3, h4, ownR_mono (Sub.refl _) (fun o z => by rw [upd_ne na]; exact z) h5⟩
      unfold delH; rw [if_neg na]; exact h2

/-! ### comprehensions -/
def QTs (S : SA) (X : Cx) (ifs : List Expr) (m : DT) : Prop := PTs X ifs (TT_ S m)
theorem pts_weak {ifs : List Expr} {t t' : TT} (h : PTs X ifs t) (w : ∀ σ H Q, t' σ H Q → t σ H Q) : PTs X ifs t' := ⟨fun pins s σ H Q I q => h.run pins s σ H Q I (w σ H Q q)⟩
def mYes : DT := fun _ => .ret true
theorem qts_nil : QTs S X [] mYes := pts_weak pts_nil fun σ H Q ⟨G, F, env, g, q⟩ => q G F H (Ext.refl _ _) g
theorem qts_one (h : QT S X c t) : QTs S X [c] t := pts_one h
def mLcL (gg : DG) (mt : DT) (me : DE) (envw : DEnv) : List D → List D → M (List D)
  | [], acc => .ret acc
  | d :: ds, acc => gg d envw >>= fun env1 => mt env1 >>= fun k => if k then me env1 >>= fun y => mLcL gg mt me envw ds (acc ++ [y]) else mLcL gg mt me envw ds acc
def mLc (vs : List Nat) (mi : DI) (gg : DG) (mt : DT) (me : DE) : DE := fun env => if vs.all (notOwn env) then mi env >>= fun ds => mLcL gg mt me (wipeE env vs) ds [] >>= fun ys => .ret (.lst ys) else .fail
/-- what is known of the list that grows at p -/
structure Grow (S : SA) (G1 F1 : Hp) (σ : L2.St) (env : DEnv) (p : Addr) (H : Hp) (acc : List D) (n : Nat) (G2 F2 : Hp) : Prop where
  x : Ext G1 F1 G2 F2
  g : Good S G2 F2 σ H env
  no : G2 p = none
  ows : ∀ (i : Nat) (di : D), env[i]? = some (some (.own di)) → σ[i]? ≠ some (some (.ref p))
  at_ : ∃ vs, H p = some (.lst vs) ∧ RpL S F2 acc vs ∧ vs.length ≤ n
  bos : NoBor σ env p
theorem Good.borNe (g : Good S G F σ H env) (hp : H p = none) : NoBor σ env p := fun i di e z => by
  obtain ⟨u, h1, h2⟩ := g.slot i _ e
  rw [z] at h1
  cases h1
  have hg := g.no hp
  have hf := g.fg.no hg
  rcases h2 with h2 | ⟨a, ea, h2⟩
  · cases h2 with
    | stt => obtain ⟨_, n, cs, q1, _⟩ := g.st; rw [q1] at hp; cases hp
    | tup h _ _ => rw [hf] at h; cases h
    | lst h _ _ => rw [hf] at h; cases h
    | dctK h _ _ => rw [hf] at h; cases h
    | dctT h _ _ => rw [hf] at h; cases h
    | dcn h _ _ => rw [hf] at h; cases h
  · cases ea
    obtain ⟨o, ho⟩ := ownR_some h2
    rw [hg] at ho; cases ho
theorem NoBor.wiped (h : NoBor σ env p) (vs : List Nat) : NoBor (wipe σ vs) (wipeE env vs) p := fun i di e z => by
  have hi : i ∉ vs := fun hm => wipeE_in hm e
  rw [wipeE_out hi] at e
  rw [wipe_out hi] at z
  exact h i di e z
theorem Grow.start {G1 F1 H1 : Hp} (g : Good S G1 F1 σ H1 env) (hp : H1 p = none) : Grow S G1 F1 σ env p (upd H1 p (.lst [])) [] 0 G1 F1 :=
  ⟨Ext.refl _ _, g.new hp _, g.no hp, g.ownNe hp, ⟨[], upd_same, .nil, Nat.le_refl _⟩, g.borNe hp⟩
/-- the block's state at a turn: the list is kept -/
theorem Grow.blk {G1 F1 : Hp} {acc : List D} {n : Nat} {G2 F2 : Hp} (w : Grow S G1 F1 σ env p H acc n G2 F2) (vs : List Nat) (n1 : p ≠ S.sa) (n2 : p ≠ S.ca) : ∃ o, H p = some o ∧ Ext G2 F2 (upd G2 p o) F2 ∧ Good S (upd G2 p o) F2 (wipe σ vs) H (wipeE env vs) := by
  obtain ⟨us, h1, _⟩ := w.at_
  refine ⟨_, h1, ⟨sub_upd w.no, Sub.refl _, fun a h _ => h⟩, ?_⟩
  have g := w.g.wiped vs
  refine ⟨fun a u e => ?_, w.g.fg.trans (sub_upd w.no), g.st, ?_, ?_, g.len, fun i sl e => ?_, g.dist⟩
  · by_cases z : a = p
    · subst z; rw [upd_same] at e; cases e; exact h1
    · rw [upd_ne z] at e; exact g.kp a u e
  · rw [upd_ne n1.symm]; exact g.ns
  · rw [upd_ne n2.symm]; exact g.nc
  · have q := g.slot i sl e
    cases sl with
    | val d => exact q
    | bor d => obtain ⟨u, q1, q2⟩ := q; exact ⟨u, q1, q2.mono (sub_upd w.no) (Sub.refl _)⟩
    | own d =>
      obtain ⟨a, q1, q2, q3⟩ := q
      have hi : i ∉ vs := fun hm => wipeE_in hm e
      have na : a ≠ p := fun z => by
        rw [wipeE_out hi] at e
        rw [wipe_out hi] at q1
        exact w.ows i d e (by rw [q1, z])
      exact ⟨a, q1, by rw [upd_ne na]; exact q2, q3⟩
/-- behind a turn: the list stands (k: a new item) -/
theorem Grow.next {G1 F1 : Hp} {acc : List D} {n : Nat} {G2 F2 G3 F3 H3 : Hp} {σ3 : L2.St} {env3 : DEnv} {o : HO} {vs : List Nat} (w : Grow S G1 F1 σ env p H acc n G2 F2) (ho : H p = some o) (ok : vs.all (notOwn env) = true)
    (x : Ext (upd G2 p o) F2 G3 F3) (on : Only vs (wipe σ vs) (wipeE env vs) σ3 env3) (g3 : Good S G3 F3 σ3 H3 env3) {y : D} {u : V} (r : Rp S F3 y u) :
    ∃ us, H3 p = some (.lst us) ∧ us.length ≤ n ∧ Grow S G1 F1 σ env p (upd H3 p (.lst (us ++ [u]))) (acc ++ [y]) (n + 1) (delH G3 p) F3 := by
  obtain ⟨us, h1, h2, h3⟩ := w.at_
  rw [h1] at ho
  cases ho
  have k3 : G3 p = some (.lst us) := x.g _ _ upd_same
  have f2 : F2 p = none := w.g.fg.no w.no
  have f3 : F3 p = none := x.n p f2 (by rw [upd_same]; simp)
  have gb := w.g.back ok on x.f g3
  refine ⟨us, g3.kp _ _ k3, h3, ⟨w.x.trans ⟨fun a u' e => ?_, x.f, fun a e1 e2 => ?_⟩, gb.chg k3 f3 w.bos, ?_, w.ows, ⟨us ++ [u], upd_same, (h2.mono x.f).append (.cons r .nil), ?_⟩, w.bos⟩⟩
  · have na : a ≠ p := fun z => by rw [z, w.no] at e; cases e
    unfold delH
    rw [if_neg na]
    exact x.g a u' (by rw [upd_ne na]; exact e)
  · exact x.n a e1 (by
      have na : a ≠ p := fun z => e2 (by rw [z]; exact w.no)
      rw [upd_ne na]; exact e2)
  · unfold delH; rw [if_pos rfl]
  · rw [List.length_append, List.length_singleton]; omega
theorem Grow.skip {G1 F1 : Hp} {acc : List D} {n : Nat} {G2 F2 G3 F3 H3 : Hp} {σ3 : L2.St} {env3 : DEnv} {o : HO} {vs : List Nat} (w : Grow S G1 F1 σ env p H acc n G2 F2) (ho : H p = some o) (ok : vs.all (notOwn env) = true)
    (x : Ext (upd G2 p o) F2 G3 F3) (on : Only vs (wipe σ vs) (wipeE env vs) σ3 env3) (g3 : Good S G3 F3 σ3 H3 env3) : Grow S G1 F1 σ env p H3 acc (n + 1) (delH G3 p) F3 := by
  obtain ⟨us, h1, h2, h3⟩ := w.at_
  rw [h1] at ho
  cases ho
  have k3 : G3 p = some (.lst us) := x.g _ _ upd_same
  have f2 : F2 p = none := w.g.fg.no w.no
  have f3 : F3 p = none := x.n p f2 (by rw [upd_same]; simp)
  have gb := (w.g.back ok on x.f g3).chg (o' := .lst us) k3 f3 w.bos
  have eH : upd H3 p (.lst us) = H3 := by
    funext a
    by_cases z : a = p
    · subst z; rw [upd_same]; exact (g3.kp _ _ k3).symm
    · rw [upd_ne z]
  rw [eH] at gb
  refine ⟨w.x.trans ⟨fun a u' e => ?_, x.f, fun a e1 e2 => ?_⟩, gb, ?_, w.ows, ⟨us, g3.kp _ _ k3, h2.mono x.f, by omega⟩, w.bos⟩
  · have na : a ≠ p := fun z => by rw [z, w.no] at e; cases e
    unfold delH
    rw [if_neg na]
    exact x.g a u' (by rw [upd_ne na]; exact e)
  · exact x.n a e1 (by
      have na : a ≠ p := fun z => e2 (by rw [z]; exact w.no)
      rw [upd_ne na]; exact e2)
  · unfold delH; rw [if_pos rfl]
theorem lc_read {vs : List Nat} {mi : DI} {gg : DG} {mt : DT} {me : DE} (g : Good S G F σ H env) (q : (mLc vs mi gg mt me env).wp (PostF S G F σ env Q)) : tLc (TIx (imComp vs) S mi) (TG_ S vs gg) (TT_ S mt) (TE_ S me) vs σ H Q := by
  unfold mLc at q
  split at q
  · rename_i ok
    refine ⟨G, F, env, g, ok, M.wp_mono (M.wpb q) fun ds q J G1 F1 H1 e1 g1 its hz => ?_⟩
    intro p hp
    have nst := g1.stNe hp
    refine ⟨fun i m H => m = ds.length - i ∧ i ≤ ds.length ∧ ∃ G2 F2 acc, Grow S G1 F1 σ env p H acc i G2 F2 ∧ (mLcL gg mt me (wipeE env vs) (ds.drop i) acc).wp (fun ys => PostF S G F σ env Q (.lst ys)),
      ⟨ds.length, by simp, Nat.zero_le _, G1, F1, [], Grow.start g1 hp, by rw [List.drop_zero]; exact M.wpb q⟩, ?_⟩
    rintro i m H ⟨rfl, hi, G2, F2, acc, w, q⟩
    have comp : (imComp vs).P F1 σ env F2 σ env := ⟨w.x.f, fun _ _ => ⟨rfl, rfl⟩⟩
    by_cases hlt : i < ds.length
    · obtain ⟨o, ho, xb, gb⟩ := w.blk vs nst.1 nst.2
      have compW : (imComp vs).P F1 σ env F2 (wipe σ vs) (wipeE env vs) := ⟨w.x.f, fun j hj => ⟨wipe_out hj, wipeE_out hj⟩⟩
      refine .inr ⟨its.go i _ _ _ H _ compW gb hlt, fun H => ∃ G2 F2 acc, Grow S G1 F1 σ env p H acc (i + 1) G2 F2 ∧ (mLcL gg mt me (wipeE env vs) (ds.drop (i + 1)) acc).wp (fun ys => PostF S G F σ env Q (.lst ys)),
        fun H' h => ⟨ds.length - (i + 1), by omega, rfl, hlt, h⟩, fun x H' y => ?_⟩
      obtain ⟨G3, F3, e3, g3, r3⟩ := its.yld i _ _ _ H _ x H' ds[i] compW gb (by simp [hlt]) y
      rw [List.drop_eq_getElem_cons hlt] at q
      refine ⟨G3, F3, wipeE env vs, ds[i], g3, r3, M.wp_mono (M.wpb q) fun env3 q σ3 o3 g3' => ⟨?_, G3, F3, env3, g3', M.wp_mono (M.wpb q) fun k q G4 F4 H4 e4 g4 => ?_⟩⟩
      · rw [o3.1, wipe_idem]
      · cases k with
        | true =>
          rw [if_pos rfl] at q ⊢
          refine ⟨G4, F4, env3, g4, M.wp_mono (M.wpb q) fun yd q u G5 F5 H5 e5 g5 r5 => ?_⟩
          obtain ⟨us, hus, hul, w'⟩ := w.next ho ok (e3.trans (e4.trans e5)) o3 g5 r5
          exact ⟨us, hus, by omega, delH G5 p, F5, _, w', q⟩
        | false =>
          rw [if_neg (by decide)] at q ⊢
          exact ⟨delH G4 p, F4, acc, w.skip ho ok (e3.trans e4) o3 g4, q⟩
    · have e : i = ds.length := by omega
      subst e
      rw [List.drop_length] at q
      obtain ⟨us, h1, h2, h3⟩ := w.at_
      refine .inl ⟨its.stop _ G2 F2 σ H env comp w.g (Nat.le_refl _), ?_⟩
      have q' : PostF S G F σ env Q (.lst acc) := q
      exact q' p G2 F2 H (e1.trans w.x) w.g ⟨w.no, nst.1, nst.2, w.ows, us, h1, h2, by omega⟩
  · exact q.elim
theorem qlc (own : List (Str × Nat)) {tg iter : Expr} {ifs : List Expr} {scope : Scope} {mi : DI} {gg : DG} {mt : DT} {me : DE} (hN : X.N.Nodup) (hi : QI (imComp (own.map (·.2))) S X tg iter mi) (ok : BlkOk X.N X.env.scope scope own)
    (hg : ∀ (s : Shared) (H : Hp) (C : Addr) (cl : List (Str × Addr)) (fp : List Addr), QG S (own.map (·.2)) (X.blk s H scope (compEnvC scope cl C X.env) fp) tg gg) (ht : ∀ (s : Shared) (H : Hp) (C : Addr) (cl : List (Str × Addr)) (fp : List Addr), QTs S (X.blk s H scope (compEnvC scope cl C X.env) fp) ifs mt)
    (he : ∀ (s : Shared) (H : Hp) (C : Addr) (cl : List (Str × Addr)) (fp : List Addr), QE S (X.blk s H scope (compEnvC scope cl C X.env) fp) e me) (hc : X.calm = true := by rfl) (hs : ∀ x, foldedSetIterable iter X.env x = pure x := by intro _; rfl) :
    QF S X (.ListComp e [⟨tg, iter, ifs, 0⟩] scope pos) (mLc (own.map (·.2)) mi gg mt me) :=
  pe_weak (pe_lc hc hN hi ok hg ht he hs) fun σ H Q ⟨G, F, env, g, q⟩ => lc_read g q
/-- y = [..], y a local name -/
theorem qsetLc (i : Nat) (own : List (Str × Nat)) {y : Str} {py : Pos} {tg iter : Expr} {ifs : List Expr} {scope : Scope} {mi : DI} {gg : DG} {mt : DT} {me : DE} (hN : X.N.Nodup) (hi : QI (imComp (own.map (·.2))) S X tg iter mi) (ok : BlkOk X.N X.env.scope scope own)
    (hg : ∀ (s : Shared) (H : Hp) (C : Addr) (cl : List (Str × Addr)) (fp : List Addr), QG S (own.map (·.2)) (X.blk s H scope (compEnvC scope cl C X.env) fp) tg gg) (ht : ∀ (s : Shared) (H : Hp) (C : Addr) (cl : List (Str × Addr)) (fp : List Addr), QTs S (X.blk s H scope (compEnvC scope cl C X.env) fp) ifs mt)
    (he : ∀ (s : Shared) (H : Hp) (C : Addr) (cl : List (Str × Addr)) (fp : List Addr), QE S (X.blk s H scope (compEnvC scope cl C X.env) fp) e me)
    (hsw : swapsWith (.ListComp e [⟨tg, iter, ifs, 0⟩] scope pos) (some (.Name y py)) pp.line X.env = pure true)
    (hy : X.N[i]? = some y := by rfl) (hyl : X.env.scope.names.lookup y = some .local := by rfl) (hc : X.calm = true := by rfl) (hs : ∀ x, foldedSetIterable iter X.env x = pure x := by intro _; rfl) :
    QS S X (.Assign [.Name y py] (.ListComp e [⟨tg, iter, ifs, 0⟩] scope pos) pp) (mSetO i (mLc (own.map (·.2)) mi gg mt me)) :=
  ps_weak (ps_setLc hc hN hy hyl hsw hi ok hg ht he hs) fun D' σ H ⟨G, F, env, g, q⟩ => by
    show tLc _ _ _ _ _ σ H fun x H1 => gName i x σ H1 D'.nx
    refine lc_read g (M.wp_mono (M.wpb q) fun d q p G1 F1 H1 e1 g1 f1 => ?_)
    exact q _ G1 F1 H1 e1 (g1.setOwn f1)

/-! ### a list's methods -/
def mMeth (op : List D → List D → M D) (m : DE) (ms : DA) : DE := fun env => m env >>= fun x => match x with
  | .lst xs => ms env >>= fun ds => op xs ds
  | _ => .fail
def MtD (S : SA) (X : Cx) (id : String) (op : List D → List D → M D) : Prop := ∃ r : V → List V → Hp → VK → Prop, MtR X id r ∧ ∀ (G F : Hp) (σ : L2.St) (H : Hp) (env : DEnv) (v : V) (vs : List V) (xs ds : List D) (Q : VK),
  Good S G F σ H env → RdB S F σ env (.lst xs) v → RdBL S F σ env ds vs → (op xs ds).wp (Post S G F σ env Q) → r v vs H Q
theorem qmeth {name : Str} {id : String} {op : List D → List D → M D} {o : Expr} {apos cpos : Pos} (pa : PlainAttrs "list") (slot : Slot "list" name id) (hty : typeOf (.builtin id) = pure (.type "method_descriptor")) (hm : MtD S X id op) (ho : QB S X o m) (ha : QAB S X (e :: es) ms)
    (hbase : attributeBase o name X.env (eval o X.env) = eval o X.env := by rfl)
    (hfew : ((backTo cpos (starEach (e :: es) X.env)).all (fun x => !x.1) && (backToKw cpos (keywordEach [] X.env)).all (fun x => x.1.isSome)
      && decide ((e :: es).length + ([] : List Keyword).length + (if ([] : List Keyword).isEmpty then 0 else 1) < 30)) = true := by rfl)
    (hline : (apos.endLine == cpos.line) = true := by rfl) (hs : starEach (e :: es) X.env = (false, eval e X.env) :: starEach es X.env := by rfl) (hplain : (backTo cpos (starEach es X.env)).any (·.1) = false := by rfl) :
    QE S X (.Call (.Attribute o name apos) (e :: es) [] cpos) (mMeth op m ms) := by
  obtain ⟨r, hr, k⟩ := hm
  exact pe_weak (pe_bm pa slot hty hr ho ha hbase hfew hline hs hplain) fun σ H Q ⟨G, F, env, g, q⟩ => ⟨G, F, env, g, M.wp_mono (M.wpb q) fun d q v G1 F1 H1 e1 g1 r1 => by
    cases d with
    | lst xs =>
      obtain ⟨p, us, rfl, h1, l1, z1⟩ := r1.lst g1
      exact ⟨.inl ⟨rfl, us, .of h1⟩, G1, F1, env, g1, M.wp_mono (M.wpb q) fun ds q vs G2 F2 H2 e2 g2 r2 => k G2 F2 σ H2 env _ vs xs ds Q g2 (r1.mono e2.f) r2 (M.wp_mono q fun _ => post_shift (e1.trans e2))⟩
    | _ => exact q.elim⟩
def idxD (xs : List D) (y : D) : Option Nat := xs.findIdx? fun z => D.beq z y
def dIndex : List D → List D → M D
  | xs, [y] => if y.pl 63 && D.plL 63 xs then (match idxD xs y with
    | some j => .ret (.int (j : Nat))
    | none => .fail) else .fail
  | _, _ => .fail
theorem pyL_get : ∀ (xs : List D) (j : Nat), (D.pyL xs)[j]? = xs[j]?.map D.py
  | [], j => by simp [D.pyL]
  | x :: xs, 0 => by simp [D.pyL]
  | x :: xs, j + 1 => by simpa [D.pyL] using pyL_get xs j
theorem plL_get : ∀ {n : Nat} {xs : List D} {j : Nat} {x : D}, D.plL n xs = true → xs[j]? = some x → x.pl n = true
  | n, y :: ys, 0, x, h, e => by simp at e; subst e; simp only [D.plL, Bool.and_eq_true] at h; exact h.1
  | n, y :: ys, j + 1, x, h, e => by simp only [D.plL, Bool.and_eq_true] at h; exact plL_get h.2 (by simpa using e)
theorem t_index (hu : X.A.units + 65 < cLine) : MtD S X "list.index" dIndex := ⟨_, mt_indexD hu, fun G F σ H env v vs xs ds Q g r rs q => by
  unfold dIndex at q
  split at q
  · split at q
    · rename_i y hc
      rw [Bool.and_eq_true] at hc
      split at q
      · rename_i j hj
        obtain ⟨u, rfl, ru⟩ := rdb1 rs
        have ⟨p, us, ev, _, _, _⟩ := r.lst g
        subst ev
        obtain ⟨p1, s1⟩ := ru.shaped (K := X.K) g (D.pl_succ _ _ hc.1)
        obtain ⟨p2, s2⟩ := r.shaped (K := X.K) g (show (D.lst _).pl 64 = true from hc.2)
        obtain ⟨hl, h1, h2⟩ := List.findIdx?_eq_some_iff_getElem.mp hj
        refine ⟨p, u, y.py, D.pyL _, j, _, rfl, rfl, by simpa only [D.py] using p2, p1, by simpa only [D.py] using s2, s1, by rw [pyL_get, List.getElem?_eq_getElem hl]; rfl, ?_, fun k z hk hz => ?_, Post.now q g (.int _)⟩
        · rw [D.eqv_beq 63 _ _ (plL_get hc.2 (List.getElem?_eq_getElem hl)) hc.1]; exact h1
        · have hkl : k < xs.length := by omega
          rw [pyL_get, List.getElem?_eq_getElem hkl] at hz
          cases hz
          rw [D.eqv_beq 63 _ _ (plL_get hc.2 (List.getElem?_eq_getElem hkl)) hc.1]
          have := h2 k hk
          simpa using this
      · exact q.elim
    · exact q.elim
  · exact q.elim⟩
theorem qindex {o : Expr} {apos cpos : Pos} (hu : X.A.units + 65 < cLine) (ho : QB S X o m) (ha : QB S X e ma) (n1 : starEach [e] X.env = (false, eval e X.env) :: starEach [] X.env := by rfl)
    (hbase : attributeBase o "index" X.env (eval o X.env) = eval o X.env := by rfl)
    (hfew : ((backTo cpos (starEach [e] X.env)).all (fun x => !x.1) && (backToKw cpos (keywordEach [] X.env)).all (fun x => x.1.isSome)
      && decide ([e].length + ([] : List Keyword).length + (if ([] : List Keyword).isEmpty then 0 else 1) < 30)) = true := by rfl)
    (hline : (apos.endLine == cpos.line) = true := by rfl) (hplain : (backTo cpos (starEach [] X.env)).any (·.1) = false := by rfl) : QE S X (.Call (.Attribute o "index" apos) [e] [] cpos) (mMeth dIndex m (aCons ma aNil)) :=
  qmeth PySem.F.plainAttrs_list PySem.F.slot_list_index PySem.F.type_list_index (t_index hu) ho (qab_cons ha qab_nil n1) hbase hfew hline n1 hplain
/-- an own list at name i is changed -/
theorem Good.ownSet {vs : List V} {ds : List D} (g : Good S G F σ H env) (e : env[i]? = some (some (.own d))) (hp : σ[i]? = some (some (.ref p))) (r : RpL S F ds vs) (z : vs.length ≤ sizeLine) : Good S G F σ (upd H p (.lst vs)) (env.set i (some (.own (.lst ds)))) := by
  obtain ⟨a, h1, h2, h3, h4, h5⟩ := g.slot i _ e
  rw [hp] at h1
  cases h1
  have hi : i < env.length := (List.getElem?_eq_some_iff.mp e).1
  refine ⟨fun b u q => ?_, g.fg, ⟨g.st.1, ?_⟩, g.ns, g.nc, by rw [List.length_set]; exact g.len, fun j sl q => ?_, fun j k dj dk b e1 e2 e3 e4 => ?_⟩
  · have nb : b ≠ p := fun z => by rw [z, h2] at q; cases q
    rw [upd_ne nb]; exact g.kp b u q
  · obtain ⟨_, n, cs, q1, q2, q3⟩ := g.st
    exact ⟨n, cs, by rw [upd_ne h3.symm]; exact q1, by rw [upd_ne h4.symm]; exact q2, q3⟩
  · by_cases hij : i = j
    · subst hij
      rw [List.getElem?_set_self hi] at q
      cases q
      exact ⟨p, hp, h2, h3, h4, vs, upd_same, r, z⟩
    · rw [List.getElem?_set_ne hij] at q
      have w := g.slot j sl q
      cases sl with
      | val d' => exact w
      | bor d' => exact w
      | own d' =>
        obtain ⟨b, w1, w2, w3, w4, w5⟩ := w
        have nb : b ≠ p := by
          rintro rfl
          exact hij (g.dist i j _ _ b e q hp w1)
        exact ⟨b, w1, w2, w3, w4, ownR_mono (Sub.refl _) (fun o z => by rw [upd_ne nb]; exact z) w5⟩
  · have fix : ∀ (l : Nat) (dl : D), (env.set i (some (.own (.lst ds))))[l]? = some (some (.own dl)) → ∃ dl', env[l]? = some (some (.own dl')) := fun l dl q => by
      by_cases hl : i = l
      · subst hl; exact ⟨d, e⟩
      · rw [List.getElem?_set_ne hl] at q; exact ⟨dl, q⟩
    obtain ⟨_, f1⟩ := fix j dj e1
    obtain ⟨_, f2⟩ := fix k dk e2
    exact g.dist j k _ _ b f1 f2 e3 e4
def mAppend (i : Nat) (m : DE) : DS := fun env => m env >>= fun d => match env[i]? with
  | some (some (.own (.lst xs))) => if xs.length < sizeLine then .ret (.nx, env.set i (some (.own (.lst (xs ++ [d]))))) else .fail
  | _ => .fail
theorem qappend (i : Nat) {x : Str} {np apos cpos epos : Pos} (ha : QE S X e m) (hN : X.N[i]? = some x := by rfl) (hv : Vis X.env.scope x := by first | exact Or.inl rfl | exact Or.inr (Or.inl rfl) | exact Or.inr (Or.inr rfl)) (hd : (x == ("__debug__" : Str)) = false := by decide)
    (hcd : (x == ("__classdict__" : Str)) = false := by decide) (n1 : starEach [e] X.env = (false, eval e X.env) :: starEach [] X.env := by rfl)
    (hbase : attributeBase (.Name x np) "append" X.env (eval (.Name x np) X.env) = eval (.Name x np) X.env := by rfl)
    (hfew : ((backTo cpos (starEach [e] X.env)).all (fun x => !x.1) && (backToKw cpos (keywordEach [] X.env)).all (fun x => x.1.isSome)
      && decide ([e].length + ([] : List Keyword).length + (if ([] : List Keyword).isEmpty then 0 else 1) < 30)) = true := by rfl)
    (hline : (apos.endLine == cpos.line) = true := by rfl) (hplain : (backTo cpos (starEach [] X.env)).any (·.1) = false := by rfl) (hs : swapsWith (.Call (.Attribute (.Name x np) "append" apos) [e] [] cpos) none epos.line X.env = pure false := by rfl) :
    QS S X (.Expr (.Call (.Attribute (.Name x np) "append" apos) [e] [] cpos) epos) (mAppend i m) :=
  ps_weak (ps_expr (pe_bm PySem.F.plainAttrs_list PySem.F.slot_list_append PySem.F.type_list_append mt_append (pe_var hN hv hd hcd) (qa_cons ha qa_nil n1) hbase hfew hline n1 hplain) hs) fun D' σ H ⟨G, F, env, g, q⟩ => by
    -- what stands at the name ahead of the argument
    have own : ∃ a, σ[i]? = some (some (.ref a)) ∧ ∃ xs vs, env[i]? = some (some (.own (.lst xs))) ∧ H a = some (.lst vs) := by
      have q' := M.wpb q
      have nf : ∃ xs, env[i]? = some (some (.own (.lst xs))) := by
        have step : ∀ {mm : M D} {f : D → M (Fl × DEnv)} {P : Fl × DEnv → Prop}, (mm.wp fun a => (f a).wp P) → (∀ a, (f a).wp P → ∃ xs, env[i]? = some (some (.own (.lst xs)))) → ∃ xs, env[i]? = some (some (.own (.lst xs))) := by
          intro mm f P h1 h2
          induction mm with
          | ret a => exact h2 a h1
          | fail => exact h1.elim
          | ask k g ih => exact ih 0 (h1.2 0 (Int.le_refl _) h1.1.1)
        refine step q' fun a h => ?_
        split at h
        · rename_i xs e; exact ⟨xs, e⟩
        · exact h.elim
      obtain ⟨xs, e⟩ := nf
      obtain ⟨a, h1, _, _, _, vs, h2, _⟩ := g.slot i _ e
      exact ⟨a, h1, xs, vs, e, h2⟩
    obtain ⟨a, ha', xs, vs, e, hv'⟩ := own
    refine ⟨.ref a, ha', .inl ⟨rfl, vs, .of hv'⟩, G, F, env, g, ?_⟩
    have q' := M.wpb q
    rw [e] at q'
    refine (M.wp_bind (g := fun ds => M.ret ds)).mp ?_
    show M.wp (M.bind (M.bind (m env) fun x => M.bind (M.ret []) fun xs => M.ret (x :: xs)) M.ret) _
    rw [M.wp_bind, M.wp_bind]
    refine M.wp_mono q' fun d q us G1 F1 H1 e1 g1 r1 => ?_
    simp only at q
    split at q
    · cases r1 with
      | cons r t =>
        cases t
        obtain ⟨b, b1, b2, b3, b4, ws, b5, b6, b7⟩ := g1.slot i _ e
        rw [ha'] at b1
        cases b1
        have n := b6.len
        exact ⟨a, ws, _, rfl, rfl, b5, by omega, q _ G1 F1 _ e1 (g1.ownSet e ha' (b6.append (.cons r .nil)) (by rw [List.length_append, List.length_singleton]; omega))⟩
    · exact q.elim
end
end DL

set_option Elab.async false
set_option linter.all false
set_option maxRecDepth 100000
/-! DL8: a def's promise by trees; calls; the law's own state. -/
namespace DL
open PySem PySem.Spec L2
open PyProof.Rows hiding St

/-- an argument: a value that stands still, or (b) one that is only looked at -/
def ArgR (S : SA) (F H : Hp) (b : Bool) (d : D) (v : V) : Prop := Rp S F d v ∨ (b = true ∧ ∃ a, v = .ref a ∧ a ≠ S.sa ∧ a ≠ S.ca ∧ OwnR S F H a d)
inductive ArgsR (S : SA) (F H : Hp) : List Bool → List D → List V → Prop
  | nil : ArgsR S F H [] [] []
  | cons {b : Bool} {bs : List Bool} {d : D} {ds : List D} {v : V} {vs : List V} : ArgR S F H b d v → ArgsR S F H bs ds vs → ArgsR S F H (b :: bs) (d :: ds) (v :: vs)
theorem ArgsR.len {S : SA} {F H : Hp} : ∀ {bs : List Bool} {ds : List D} {vs : List V}, ArgsR S F H bs ds vs → ds.length = bs.length ∧ vs.length = bs.length
  | _, _, _, .nil => ⟨rfl, rfl⟩
  | _, _, _, .cons _ t => ⟨congrArg (· + 1) t.len.1, congrArg (· + 1) t.len.2⟩
theorem ArgsR.get {S : SA} {F H : Hp} : ∀ {bs : List Bool} {ds : List D} {vs : List V} {i : Nat} {d : D}, ArgsR S F H bs ds vs → ds[i]? = some d → ∃ b v, bs[i]? = some b ∧ vs[i]? = some v ∧ ArgR S F H b d v
  | _, _, _, _, _, .nil, e => by simp at e
  | _, _, _, 0, _, .cons r _, e => by simp at e; subst e; exact ⟨_, _, rfl, rfl, r⟩
  | _, _, _, i + 1, d, .cons _ t, e => by
    obtain ⟨b, u, h0, h1, h2⟩ := ArgsR.get (i := i) (d := d) t (by simpa using e)
    exact ⟨b, u, by simpa using h0, by simpa using h1, h2⟩
theorem ArgsR.mono {S : SA} {F F' H H' : Hp} (s : Sub F F') (k : ∀ a o, a ≠ S.sa → a ≠ S.ca → H a = some o → H' a = some o) : ∀ {bs : List Bool} {ds : List D} {vs : List V}, ArgsR S F H bs ds vs → ArgsR S F' H' bs ds vs
  | _, _, _, .nil => .nil
  | _, _, _, .cons r t => .cons (by
      rcases r with r | ⟨hb, a, e, n1, n2, r⟩
      · exact .inl (r.mono s)
      · exact .inr ⟨hb, a, e, n1, n2, ownR_mono s (fun o z => k a o n1 n2 z) r⟩) (t.mono s k)
/-- a def promises what its mirror m tells; bs: which arguments are only looked at -/
def spD (S : SA) (bs : List Bool) (m : List D → M D) : Sp := fun vs H Q _ => ∃ F ds, Sub F H ∧ F S.sa = none ∧ F S.ca = none ∧ StOk S H ∧ ArgsR S F H bs ds vs ∧
  (m ds).wp fun d => ∀ v F' H', Sub F F' → Sub F' H' → (∀ a, F a = none → F' a ≠ none → H a = none) → (∀ a o, a ≠ S.sa → a ≠ S.ca → H a = some o → H' a = some o) → StOk S H' → Rp S F' d v → Q v H'
def slots : List Bool → List D → DEnv
  | b :: bs, d :: ds => some (if b then .bor d else .val d) :: slots bs ds
  | _, _ => []
def envOf (N : Nat) (bs : List Bool) (ds : List D) : DEnv := slots bs ds ++ List.replicate (N - ds.length) none
/-- a body's mirror as a def's -/
def fnM (N : Nat) (bs : List Bool) (mb : DS) (ds : List D) : M D := mb (envOf N bs ds) >>= fun r => match r.1 with
  | .rt d => .ret d
  | .nx => .ret .non
  | _ => .fail
section
variable {S : SA} {X : Cx} {G F G' F' H H' : Hp} {σ : L2.St} {env : DEnv} {d : D} {v : V} {p : Addr} {Q : VK} {m ma mb mc : DE} {t ta tb : DT} {ms : DA} {a b c e : Expr} {es rest : List Expr} {pos pp : Pos} {x : Str} {i : Nat}
theorem RdB.arg (g : Good S G F σ H env) (h : RdB S F σ env d v) : ArgR S F H true d v := by
  rcases h with h | ⟨i, h1 | h1, h2⟩
  · exact .inl h
  · obtain ⟨a, h3, _, n1, n2, h4⟩ := g.slot i _ h1
    rw [h2] at h3
    cases h3
    exact .inr ⟨rfl, _, rfl, n1, n2, h4⟩
  · obtain ⟨u, h3, h4⟩ := g.slot i _ h1
    rw [h2] at h3
    cases h3
    rcases h4 with h4 | ⟨a, e, h4⟩
    · exact .inl h4
    · obtain ⟨o, ho⟩ := ownR_some h4
      refine .inr ⟨rfl, a, e, fun z => ?_, fun z => ?_, ownR_mono (Sub.refl _) (fun o z => g.kp _ _ z) h4⟩
      · rw [z, g.ns] at ho; cases ho
      · rw [z, g.nc] at ho; cases ho
theorem Good.call {vs : List V} {bs : List Bool} {ds : List D} {mf : List D → M D} {E : XK} (g : Good S G F σ H env) (r : ArgsR S F H bs ds vs) (q : (mf ds).wp (Post S G F σ env Q)) : spD S bs mf vs H Q E := by
  refine ⟨F, ds, g.fh, g.fsa, g.fca, g.st, r, M.wp_mono q fun d q v F' H' s1 s2 nw kp st rv => ?_⟩
  have fz : ∀ a, G a = none → H a ≠ none → F' a = none := fun a h1 h2 => by
    cases q' : F' a with
    | none => rfl
    | some o => exact absurd (nw a (g.fg.no h1) (by rw [q']; simp)) h2
  have fsa : F' S.sa = none := fz _ g.ns (by obtain ⟨_, n, cs, q1, _⟩ := g.st; rw [q1]; simp)
  have fca : F' S.ca = none := fz _ g.nc (by obtain ⟨_, n, cs, _, q1, _⟩ := g.st; rw [q1]; simp)
  have nsa : ∀ a o, G a = some o → a ≠ S.sa ∧ a ≠ S.ca := fun a o e => ⟨fun z => (by rw [z, g.ns] at e; cases e), fun z => (by rw [z, g.nc] at e; cases e)⟩
  refine q v (fun a => match G a with | some o => some o | none => F' a) F' H' ⟨fun a o e => ?_, s1, fun a h1 h2 => ?_⟩ ⟨fun a o e => ?_, fun a o e => ?_, st, ?_, ?_, g.len, fun i sl e => ?_, g.dist⟩ rv
  · show (match G a with | some o => some o | none => F' a) = some o
    rw [e]
  · cases q' : F' a with
    | none => rfl
    | some o =>
      have hn := nw a h1 (by rw [q']; simp)
      exact absurd (g.no hn) h2
  · have e' : (match G a with | some o => some o | none => F' a) = some o := e
    cases q' : G a with
    | none => rw [q'] at e'; exact s2 a o e'
    | some u =>
      rw [q'] at e'
      cases e'
      exact kp a _ (nsa a _ q').1 (nsa a _ q').2 (g.kp a _ q')
  · show (match G a with | some o => some o | none => F' a) = some o
    cases q' : G a with
    | none => exact e
    | some u =>
      cases q2 : F a with
      | none =>
        have hn := nw a q2 (by rw [e]; simp)
        rw [g.kp a _ q'] at hn; cases hn
      | some w =>
        have e3 := s1 a w q2
        rw [e] at e3
        have e4 := g.fg a w q2
        rw [q'] at e4
        rw [e3] at *
        exact e4
  · show (match G S.sa with | some o => some o | none => F' S.sa) = none
    rw [g.ns]; exact fsa
  · show (match G S.ca with | some o => some o | none => F' S.ca) = none
    rw [g.nc]; exact fca
  · have w := g.slot i sl e
    cases sl with
    | val d' => obtain ⟨u, h1, h2⟩ := w; exact ⟨u, h1, h2.mono s1⟩
    | bor d' =>
      obtain ⟨u, h1, h2⟩ := w
      refine ⟨u, h1, h2.mono (fun a o e => ?_) s1⟩
      show (match G a with | some o => some o | none => F' a) = some o
      rw [e]
    | own d' =>
      obtain ⟨a, h1, h2, h3, h4, h5⟩ := w
      obtain ⟨o, ho⟩ := ownR_some h5
      refine ⟨a, h1, ?_, h3, h4, ownR_mono s1 (fun o z => kp a o h3 h4 z) h5⟩
      show (match G a with | some o => some o | none => F' a) = none
      rw [h2]; exact fz a h2 (by rw [ho]; simp)
/-! arguments, each by its kind -/
def PostM (S : SA) (G F : Hp) (σ : L2.St) (env : DEnv) (bs : List Bool) (Q : List V → Hp → Prop) (ds : List D) : Prop := ∀ vs G' F' H', Ext G F G' F' → Good S G' F' σ H' env → ArgsR S F' H' bs ds vs → Q vs H'
/-- an argument as it is to be taken on: by its name, or as a value -/
def RdM (S : SA) (F : Hp) (σ : L2.St) (env : DEnv) (b : Bool) (d : D) (v : V) : Prop := if b then RdB S F σ env d v else Rp S F d v
inductive RdMs (S : SA) (F : Hp) (σ : L2.St) (env : DEnv) : List Bool → List D → List V → Prop
  | nil : RdMs S F σ env [] [] []
  | cons {b : Bool} {bs : List Bool} {d : D} {ds : List D} {v : V} {vs : List V} : RdM S F σ env b d v → RdMs S F σ env bs ds vs → RdMs S F σ env (b :: bs) (d :: ds) (v :: vs)
def PostMs (S : SA) (G F : Hp) (σ : L2.St) (env : DEnv) (bs : List Bool) (Q : List V → Hp → Prop) (ds : List D) : Prop := ∀ vs G' F' H', Ext G F G' F' → Good S G' F' σ H' env → RdMs S F' σ env bs ds vs → Q vs H'
def TAM_ (S : SA) (bs : List Bool) (m : DA) : TA := fun σ H Q => ∃ G F env, Good S G F σ H env ∧ (m env).wp (PostMs S G F σ env bs Q)
def QAM (S : SA) (X : Cx) (bs : List Bool) (es : List Expr) (m : DA) : Prop := PA X es (TAM_ S bs m)
theorem qam_nil : QAM S X [] [] aNil := pa_weak pa_nil fun σ H Q ⟨G, F, env, g, q⟩ => q [] G F H (Ext.refl _ _) g .nil
theorem qam_v {bs : List Bool} (ha : QE S X e m) (hr : QAM S X bs es ms) (hs : starEach (e :: es) X.env = (false, eval e X.env) :: starEach es X.env := by rfl) : QAM S X (false :: bs) (e :: es) (aCons m ms) :=
  pa_weak (pa_cons ha hr hs) fun σ H Q ⟨G, F, env, g, q⟩ => ⟨G, F, env, g, M.wp_mono (M.wpb q) fun d q v G1 F1 H1 e1 g1 r1 => ⟨G1, F1, env, g1, M.wp_mono (M.wpb q) fun ds q vs G2 F2 H2 e2 g2 r2 =>
    q _ G2 F2 H2 (e1.trans e2) g2 (.cons (show RdM S F2 σ env false d v from r1.mono e2.f) r2)⟩⟩
theorem qam_b {bs : List Bool} (ha : QB S X e m) (hr : QAM S X bs es ms) (hs : starEach (e :: es) X.env = (false, eval e X.env) :: starEach es X.env := by rfl) : QAM S X (true :: bs) (e :: es) (aCons m ms) :=
  pa_weak (pa_cons ha hr hs) fun σ H Q ⟨G, F, env, g, q⟩ => ⟨G, F, env, g, M.wp_mono (M.wpb q) fun d q v G1 F1 H1 e1 g1 r1 => ⟨G1, F1, env, g1, M.wp_mono (M.wpb q) fun ds q vs G2 F2 H2 e2 g2 r2 =>
    q _ G2 F2 H2 (e1.trans e2) g2 (.cons (show RdM S F2 σ env true d v from r1.mono e2.f) r2)⟩⟩
theorem RdMs.args (g : Good S G F σ H env) : ∀ {bs : List Bool} {ds : List D} {vs : List V}, RdMs S F σ env bs ds vs → ArgsR S F H bs ds vs
  | _, _, _, .nil => .nil
  | true :: _, _, _, .cons r t => .cons (RdB.arg g r) (RdMs.args g t)
  | false :: _, _, _, .cons r t => .cons (.inl r) (RdMs.args g t)
/-- a call of a def of the text -/
theorem qcall {k : Nat} {f : Addr} {fd : FuncData} {ps : List Str} {mf : List D → M D} {pos : Pos} {bs : List Bool} (FO : FnOk X.prog X.w X.K X.mg X.base CX0 k f fd ps (spD S bs mf)) (hr : Room k X.A) (hg : Gl X x) (hm : X.mg x = some (.ref f)) (hk : PySem.W.keepIn X.K (.ref f) = true) (hb : Binds X.K fd ps []) (ha : QAM S X bs (e :: es) ms)
    (hdb : (x == ("__debug__" : Str)) = false := by decide) (he : starEach (e :: es) X.env = (false, eval e X.env) :: starEach es X.env := by rfl) (hpl : (backTo pos (starEach es X.env)).any (·.1) = false := by rfl) :
    QE S X (.Call (.Name x pp) (e :: es) [] pos) (mCall mf ms) :=
  pe_weak (pe_call FO hr hg hm hk hb .nil pass0 ha hdb he hpl) fun σ H Q ⟨G, F, env, g, q⟩ => ⟨G, F, env, g, M.wp_mono (M.wpb q) fun ds q vs G1 F1 H1 e1 g1 r1 => by
    show spD S bs mf (vs ++ []) H1 Q E0
    rw [List.append_nil]
    exact g1.call (r1.args g1) (M.wp_mono q fun _ => post_shift e1)⟩
end
theorem start_get {N : List Str} {vs : List V} {j : Nat} {v : V} (h : vs[j]? = some v) : (L2.start N vs)[j]? = some (some v) := by
  unfold L2.start
  have hj : j < vs.length := (List.getElem?_eq_some_iff.mp h).1
  rw [List.getElem?_append_left (by rw [List.length_map]; exact hj), List.getElem?_map, h]; rfl
theorem slots_len : ∀ {bs : List Bool} {ds : List D}, ds.length = bs.length → (slots bs ds).length = ds.length
  | [], [], _ => rfl
  | b :: bs, d :: ds, h => congrArg (· + 1) (slots_len (Nat.succ.inj h))
  | [], _ :: _, h => by cases h
  | _ :: _, [], h => by cases h
theorem slots_get : ∀ {bs : List Bool} {ds : List D} {i : Nat} {x : Option Sl}, (slots bs ds)[i]? = some x → ∃ b d, bs[i]? = some b ∧ ds[i]? = some d ∧ x = some (if b then .bor d else .val d)
  | b :: bs, d :: ds, 0, x, h => by simp [slots] at h; exact ⟨b, d, rfl, rfl, h.symm⟩
  | b :: bs, d :: ds, i + 1, x, h => by
    obtain ⟨b', d', h1, h2, h3⟩ := slots_get (bs := bs) (ds := ds) (i := i) (x := x) (by simpa [slots] using h)
    exact ⟨b', d', by simpa using h1, by simpa using h2, h3⟩
  | [], _, _, _, h => by simp [slots] at h
  | _ :: _, [], _, _, h => by simp [slots] at h
theorem good_start {S : SA} {F H : Hp} {N : List Str} {bs : List Bool} {ds : List D} {vs : List V} (s : Sub F H) (h1 : F S.sa = none) (h2 : F S.ca = none) (st : StOk S H) (r : ArgsR S F H bs ds vs) :
    Good S (fun a => if a = S.sa ∨ a = S.ca then none else H a) F (L2.start N vs) H (envOf N.length bs ds) := by
  have hl := slots_len r.len.1
  have slot : ∀ (i : Nat) (x : Option Sl), (envOf N.length bs ds)[i]? = some x → x = none ∨ ∃ b d, bs[i]? = some b ∧ ds[i]? = some d ∧ x = some (if b then .bor d else .val d) := fun i x e => by
    unfold envOf at e
    rcases Nat.lt_or_ge i (slots bs ds).length with hi | hi
    · rw [List.getElem?_append_left hi] at e
      exact .inr (slots_get e)
    · rw [List.getElem?_append_right hi, List.getElem?_replicate] at e
      split at e
      · cases e; exact .inl rfl
      · cases e
  refine ⟨fun a o e => ?_, fun a o e => ?_, st, by rw [if_pos (.inl rfl)], by rw [if_pos (.inr rfl)], ?_, fun i sl e => ?_, fun i j di dj a e => ?_⟩
  · split at e
    · cases e
    · exact e
  · have n : ¬ (a = S.sa ∨ a = S.ca) := by
      rintro (z | z)
      · rw [z, h1] at e; cases e
      · rw [z, h2] at e; cases e
    rw [if_neg n]; exact s a o e
  · unfold L2.start envOf
    rw [List.length_append, List.length_append, List.length_map, hl, List.length_replicate, List.length_replicate, r.len.1, r.len.2]
  · rcases slot i _ e with z | ⟨b, d, q1, q2, q3⟩
    · cases z
    · obtain ⟨b', v, q4, q5, q6⟩ := r.get q2
      rw [q1] at q4
      cases q4
      cases q3
      cases b with
      | true =>
        refine ⟨v, start_get q5, ?_⟩
        rcases q6 with q6 | ⟨_, a, e, n1, n2, q6⟩
        · exact .inl q6
        · exact .inr ⟨a, e, ownR_mono (Sub.refl _) (fun o z => by rw [if_neg (by rintro (z | z); exact n1 z; exact n2 z)]; exact z) q6⟩
      | false =>
        rcases q6 with q6 | ⟨hb, _⟩
        · exact ⟨v, start_get q5, q6⟩
        · cases hb
  · rcases slot i _ e with z | ⟨b, d, q1, q2, q3⟩
    · cases z
    · cases b <;> cases q3
section
variable {P : Program} {w : World} {K : PySem.W.Frag} {mg : Str → Option Value} {base : Heap}
/-- THE RULE for a def of the text: its body tells its mirror -/
theorem fn_ok {S : SA} {x qual : Str} {st : Stmt} {f : Addr} {fd : FuncData} {N ps : List Str} {k : Nat} {mb : DS} (bs : List Bool) (F : Fun K x qual st f fd) (Sc : FnScope N ps (defScope st)) (hn : ps.length = bs.length)
    (body : ∀ (cdv : Value) (A : Around) (outer : List Env) (s : Shared) (H : Hp) (E : XK), Room k (A.deeper (envOfC qual (defScope st) s.heap.objs.size f cdv)) → QSs S (cxOf CX0 P w K mg base N qual (defScope st) f cdv A outer s H E).nox (defBody st) mb) :
    FnOk P w K mg base CX0 (k + 1) f fd ps (spD S bs (fnM N.length bs mb)) := by
  refine F.ok Sc (fun vs H Q E h => ?_) (fun cdv A outer s H vs Q E hr h => ?_)
  · obtain ⟨F, ds, _, _, _, _, r, _⟩ := h
    rw [r.len.2, hn]
  · obtain ⟨F, ds, h1, h2, h3, h4, r, q⟩ := h
    refine ⟨_, body cdv A outer s H E hr, fun a => if a = S.sa ∨ a = S.ca then none else H a, F, _, good_start h1 h2 h3 h4 r, M.wp_mono (M.wpb q) fun r q σ' G' F' H' x g' => ?_⟩
    have fin : ∀ {d : D} {v : V}, (∀ v F' H', Sub F F' → Sub F' H' → (∀ a, F a = none → F' a ≠ none → H a = none) → (∀ a o, a ≠ S.sa → a ≠ S.ca → H a = some o → H' a = some o) → StOk S H' → Rp S F' d v → Q v H') → Rp S F' d v → Q v H' := fun {d v} q rv => by
      refine q v F' H' x.f g'.fh (fun a e1 e2 => ?_) (fun a o n1 n2 e => ?_) g'.st rv
      · cases e3 : H a with
        | none => rfl
        | some o =>
          have n1 : a ≠ S.sa := fun z => e2 (by rw [z]; exact g'.fsa)
          have n2 : a ≠ S.ca := fun z => e2 (by rw [z]; exact g'.fca)
          exact absurd (x.n a e1 (by rw [if_neg (by rintro (z | z); exact n1 z; exact n2 z), e3]; simp)) e2
      · refine g'.kp a o (x.g a o ?_)
        rw [if_neg (by rintro (z | z); exact n1 z; exact n2 z)]; exact e
    obtain ⟨fl, env'⟩ := r
    cases fl with
    | rt d => exact fun v rv => fin q rv
    | nx => exact fin (d := .non) q .non
    | bk => exact q.elim
    | ct => exact q.elim
/-- nothing is promised -/
theorem fn_zero {S : SA} {f : Addr} {fd : FuncData} {ps : List Str} {k : Nat} {bs : List Bool} : FnOk P w K mg base CX0 k f fd ps (spD S bs fun _ => .fail) := by
  have no : ∀ vs H Q E, ¬ spD S bs (fun _ => .fail) vs H Q E := fun vs H Q E h => by
    obtain ⟨F, ds, _, _, _, _, _, q⟩ := h
    exact q
  exact ⟨fun vs H Q E h => absurd h (no vs H Q E), fun A outer s H args us vs Q E _ _ _ _ h => absurd h (no vs H Q E)⟩

/-! ### the law's own draws: _law_take(state, most) -/
def takeM : List D → M D
  | [.stt, .int k] => .ask k fun r => .ret (.int r)
  | _ => .fail
def spTake (S : SA) : Sp := fun vs H Q _ => ∃ k : Int, vs = [.ref S.sa, .int k] ∧ 0 < k ∧ k < 2 ^ 30 ∧ StOk S H ∧ ∀ (r : Int) (H' : Hp), 0 ≤ r → r < k → StOk S H' → (∀ a, a ≠ S.sa → a ≠ S.ca → H' a = H a) → Q (.int r) H'
theorem take_fn {S : SA} {f : Addr} {fd : FuncData} {ps : List Str} {k : Nat} (FO : FnOk P w K mg base CX0 k f fd ps (spTake S)) : FnOk P w K mg base CX0 k f fd ps (spD S [false, false] takeM) :=
  FO.imp fun vs H Q E h => by
    obtain ⟨F, ds, h1, h2, h3, h4, r, q⟩ := h
    unfold takeM at q
    split at q
    · rename_i k
      obtain ⟨⟨k0, k1⟩, q⟩ := q
      cases r with
      | cons r1 t =>
        cases t with
        | cons r2 t =>
          cases t
          have r1 := r1.resolve_right (fun z => by cases z.1)
          have r2 := r2.resolve_right (fun z => by cases z.1)
          cases r1
          cases r2
          refine ⟨k, rfl, k0, k1, h4, fun z H' z0 z1 st kp => q z z0 z1 _ F H' (Sub.refl _) (fun a o e => ?_) (fun a e1 e2 => absurd e1 e2) (fun a o n1 n2 e => by rw [kp a n1 n2]; exact e) st (.int z)⟩
          have n1 : a ≠ S.sa := fun z => by rw [z, h2] at e; cases e
          have n2 : a ≠ S.ca := fun z => by rw [z, h3] at e; cases e
          rw [kp a n1 n2]; exact h1 a o e
    · exact q.elim
end
end DL

set_option Elab.async false
set_option linter.all false
set_option maxRecDepth 100000
/-! DL9: more statements; comprehensions of two clauses; dicts. -/
namespace DL
open PySem PySem.Spec L2
open PyProof.Rows hiding St

theorem hu65 {A : Around} {k : Nat} (hr : Room k A) : A.units + 65 < cLine := by have := hr.un; omega
theorem hu64 {A : Around} {k : Nat} (hr : Room k A) : A.units + 64 < cLine := by have := hr.un; omega
theorem hu1 {A : Around} {k : Nat} (hr : Room k A) : A.units + 1 < cLine := by have := hr.un; omega
section
variable {S : SA} {X : Cx} {G F G' F' H H' : Hp} {σ : L2.St} {env : DEnv} {d : D} {v : V} {p : Addr} {Q : VK} {m ma mb mc : DE} {t ta tb : DT} {ms : DA} {a b c e : Expr} {es rest : List Expr} {pos pp : Pos} {x : Str} {i : Nat}
theorem mLc_lst {vs : List Nat} {mi : DI} {gg : DG} {mt : DT} {me : DE} {P : D → Prop} (q : (mLc vs mi gg mt me env).wp P) : (mLc vs mi gg mt me env).wp fun d => ∃ xs, d = .lst xs ∧ P d := by
  unfold mLc at q ⊢
  split at q
  · rename_i h
    rw [if_pos h]
    exact M.wp_bind.mpr (M.wp_mono (M.wpb q) fun ds q => M.wp_bind.mpr (M.wp_mono (M.wpb q) fun ys q => ⟨ys, rfl, q⟩))
  · exact q.elim
theorem postF_set {xs : List D} {D' : Ends} (h : PostS S G F D' (.nx, env.set i (some (.val (.lst xs))))) : PostF S G F σ env (fun x H1 => D'.nx (σ.set i (some x)) H1) (.lst xs) :=
  post_freshL fun v G' F' H' e g r => h _ G' F' H' e (g.setVal r)
/-- y = [..], y a local name that stands still at once -/
theorem qsetLcV (i : Nat) (own : List (Str × Nat)) {y : Str} {py : Pos} {tg iter : Expr} {ifs : List Expr} {scope : Scope} {mi : DI} {gg : DG} {mt : DT} {me : DE} (hN : X.N.Nodup) (hi : QI (imComp (own.map (·.2))) S X tg iter mi) (ok : BlkOk X.N X.env.scope scope own)
    (hg : ∀ (s : Shared) (H : Hp) (C : Addr) (cl : List (Str × Addr)) (fp : List Addr), QG S (own.map (·.2)) (X.blk s H scope (compEnvC scope cl C X.env) fp) tg gg) (ht : ∀ (s : Shared) (H : Hp) (C : Addr) (cl : List (Str × Addr)) (fp : List Addr), QTs S (X.blk s H scope (compEnvC scope cl C X.env) fp) ifs mt)
    (he : ∀ (s : Shared) (H : Hp) (C : Addr) (cl : List (Str × Addr)) (fp : List Addr), QE S (X.blk s H scope (compEnvC scope cl C X.env) fp) e me)
    (hsw : swapsWith (.ListComp e [⟨tg, iter, ifs, 0⟩] scope pos) (some (.Name y py)) pp.line X.env = pure true)
    (hy : X.N[i]? = some y := by rfl) (hyl : X.env.scope.names.lookup y = some .local := by rfl) (hc : X.calm = true := by rfl) (hs : ∀ x, foldedSetIterable iter X.env x = pure x := by intro _; rfl) :
    QS S X (.Assign [.Name y py] (.ListComp e [⟨tg, iter, ifs, 0⟩] scope pos) pp) (mSetV i (mLc (own.map (·.2)) mi gg mt me)) :=
  ps_weak (ps_setLc hc hN hy hyl hsw hi ok hg ht he hs) fun D' σ H ⟨G, F, env, g, q⟩ => by
    show tLc _ _ _ _ _ σ H fun x H1 => gName i x σ H1 D'.nx
    refine lc_read g (M.wp_mono (mLc_lst (M.wpb q)) fun d q => ?_)
    obtain ⟨xs, rfl, q⟩ := q
    exact postF_set q
/-! ### two clauses -/
def mLc2I (vs1 : List Nat) (g1 : DG) (mt1 : DT) (me : DE) (env1 : DEnv) : List D → List D → M (List D)
  | [], acc => .ret acc
  | d :: ds, acc => g1 d (wipeE env1 vs1) >>= fun env2 => mt1 env2 >>= fun k => if k then me env2 >>= fun y => if acc.length < sizeLine then mLc2I vs1 g1 mt1 me env1 ds (acc ++ [y]) else .fail else mLc2I vs1 g1 mt1 me env1 ds acc
def mLc2L (vs vs1 : List Nat) (gg : DG) (mt : DT) (mi1 : DI) (g1 : DG) (mt1 : DT) (me : DE) (envw : DEnv) : List D → List D → M (List D)
  | [], acc => .ret acc
  | d :: ds, acc => gg d envw >>= fun env1 => mt env1 >>= fun k => if k then (if vs.all (notOwn env1) then mi1 env1 >>= fun es => mLc2I vs1 g1 mt1 me env1 es acc >>= fun acc' => mLc2L vs vs1 gg mt mi1 g1 mt1 me envw ds acc' else .fail) else mLc2L vs vs1 gg mt mi1 g1 mt1 me envw ds acc
def mLc2 (vs vs1 : List Nat) (mi : DI) (gg : DG) (mt : DT) (mi1 : DI) (g1 : DG) (mt1 : DT) (me : DE) : DE := fun env => if vs.all (notOwn env) then mi env >>= fun ds => mLc2L vs vs1 gg mt mi1 g1 mt1 me (wipeE env vs) ds [] >>= fun ys => .ret (.lst ys) else .fail
/-- the list that grows, seen from within a turn -/
theorem Grow.inner {G3 F3 H3 : Hp} {o : HO} (g3 : Good S G3 F3 σ H3 env) (k3 : G3 p = some o) (f3 : F3 p = none) {us : List V} {acc : List D} {n : Nat} (eo : o = .lst us) (r : RpL S F3 acc us) (hn : us.length ≤ n) (hb : NoBor σ env p) : Grow S (delH G3 p) F3 σ env p H3 acc n (delH G3 p) F3 := by
  subst eo
  have gb := g3.chg (o' := .lst us) k3 f3 hb
  have eH : upd H3 p (.lst us) = H3 := by
    funext a
    by_cases z : a = p
    · subst z; rw [upd_same]; exact (g3.kp _ _ k3).symm
    · rw [upd_ne z]
  rw [eH] at gb
  refine ⟨Ext.refl _ _, gb, by unfold delH; rw [if_pos rfl], fun i di e z => ?_, ⟨us, g3.kp _ _ k3, r, hn⟩, hb⟩
  obtain ⟨a, h1, h2, _⟩ := g3.slot i _ e
  rw [z] at h1
  cases h1
  rw [k3] at h2; cases h2
/-- and from without again -/
theorem Grow.outer {G1 F1 H0 : Hp} {acc0 acc : List D} {n0 n : Nat} {G2 F2 G3 F3 G5 F5 : Hp} {σ3 : L2.St} {env3 : DEnv} {o : HO} {vs : List Nat} (w : Grow S G1 F1 σ env p H0 acc0 n0 G2 F2) (ho : H0 p = some o) (ok : vs.all (notOwn env) = true)
    (x : Ext (upd G2 p o) F2 G3 F3) (on : Only vs (wipe σ vs) (wipeE env vs) σ3 env3) (w1 : Grow S (delH G3 p) F3 σ3 env3 p H acc n G5 F5) : Grow S G1 F1 σ env p H acc n G5 F5 := by
  have sf : Sub F2 F5 := x.f.trans w1.x.f
  have f2 : F2 p = none := w.g.fg.no w.no
  have f3 : F3 p = none := x.n p f2 (by rw [upd_same]; simp)
  refine ⟨w.x.trans ⟨fun a u e => ?_, sf, fun a e1 e2 => ?_⟩, w.g.back ok on sf w1.g, w1.no, w.ows, w1.at_, w.bos⟩
  · have na : a ≠ p := fun z => by rw [z, w.no] at e; cases e
    refine w1.x.g a u ?_
    unfold delH
    rw [if_neg na]
    exact x.g a u (by rw [upd_ne na]; exact e)
  · have na : a ≠ p := fun z => e2 (by rw [z]; exact w.no)
    refine w1.x.n a (x.n a e1 (by rw [upd_ne na]; exact e2)) fun z => e2 ?_
    unfold delH at z
    rw [if_neg na] at z
    have := x.g.no (a := a) z
    rw [upd_ne na] at this
    exact this
theorem lc2_read {vs vs1 : List Nat} (hv : ∀ i ∈ vs1, i ∈ vs) {mi mi1 : DI} {gg g1 : DG} {mt mt1 : DT} {me : DE} (g : Good S G F σ H env) (q : (mLc2 vs vs1 mi gg mt mi1 g1 mt1 me env).wp (PostF S G F σ env Q)) :
    tLc2 (TIx (imComp vs) S mi) (TG_ S vs gg) (TT_ S mt) (TIx (imComp vs1) S mi1) (TG_ S vs1 g1) (TT_ S mt1) (TE_ S me) vs vs1 σ H Q := by
  unfold mLc2 at q
  split at q
  · rename_i ok
    refine ⟨G, F, env, g, ok, M.wp_mono (M.wpb q) fun ds q J G1 F1 H1 e1 gg1 its hz => ?_⟩
    intro p hp
    have nst := gg1.stNe hp
    refine ⟨fun i m H => m = ds.length - i ∧ i ≤ ds.length ∧ ∃ G2 F2 acc, Grow S G1 F1 σ env p H acc acc.length G2 F2 ∧ acc.length ≤ sizeLine ∧ (mLc2L vs vs1 gg mt mi1 g1 mt1 me (wipeE env vs) (ds.drop i) acc).wp (fun ys => PostF S G F σ env Q (.lst ys)),
      ⟨ds.length, by simp, Nat.zero_le _, G1, F1, [], Grow.start gg1 hp, Nat.zero_le _, by rw [List.drop_zero]; exact M.wpb q⟩, ?_⟩
    rintro i m H ⟨rfl, hi, G2, F2, acc, w, hacc, q⟩
    have comp : (imComp vs).P F1 σ env F2 σ env := ⟨w.x.f, fun _ _ => ⟨rfl, rfl⟩⟩
    by_cases hlt : i < ds.length
    · obtain ⟨o, ho, xb, gb⟩ := w.blk vs nst.1 nst.2
      have compW : (imComp vs).P F1 σ env F2 (wipe σ vs) (wipeE env vs) := ⟨w.x.f, fun j hj => ⟨wipe_out hj, wipeE_out hj⟩⟩
      refine .inr ⟨its.go i _ _ _ H _ compW gb hlt, fun H => ∃ G2 F2 acc, Grow S G1 F1 σ env p H acc acc.length G2 F2 ∧ acc.length ≤ sizeLine ∧ (mLc2L vs vs1 gg mt mi1 g1 mt1 me (wipeE env vs) (ds.drop (i + 1)) acc).wp (fun ys => PostF S G F σ env Q (.lst ys)),
        fun H' h => ⟨ds.length - (i + 1), by omega, rfl, hlt, h⟩, fun x H' y => ?_⟩
      obtain ⟨G3, F3, e3, g3, r3⟩ := its.yld i _ _ _ H _ x H' ds[i] compW gb (by simp [hlt]) y
      rw [List.drop_eq_getElem_cons hlt] at q
      refine ⟨G3, F3, wipeE env vs, ds[i], g3, r3, M.wp_mono (M.wpb q) fun env3 q σ3 o3 g3' => ⟨?_, G3, F3, env3, g3', M.wp_mono (M.wpb q) fun k q G4 F4 H4 e4 g4 => ?_⟩⟩
      · rw [o3.1, wipe_idem]
      · have f2 : F2 p = none := w.g.fg.no w.no
        cases k with
        | false =>
          rw [if_neg (by decide)] at q
          refine L2.iteF ?_
          have w' := w.skip ho ok (e3.trans e4) o3 g4
          obtain ⟨us, u1, u2, u3⟩ := w'.at_
          exact ⟨delH G4 p, F4, acc, ⟨w'.x, w'.g, w'.no, w'.ows, ⟨us, u1, u2, by rw [u2.len]; exact Nat.le_refl _⟩, w'.bos⟩, hacc, q⟩
        | true =>
          rw [if_pos rfl] at q
          refine L2.iteT ?_
          split at q
          · rename_i ok0
            have ok1 : vs1.all (notOwn env3) = true := List.all_eq_true.mpr fun i hi => List.all_eq_true.mp ok0 i (hv i hi)
            have nb3 : NoBor σ3 env3 p := fun i di e z => by
              by_cases hm : i ∈ vs
              · have := List.all_eq_true.mp ok0 i hm
                simp [notOwn, e] at this
              · have q1 : (wipe σ3 vs)[i]? = (wipe (wipe σ vs) vs)[i]? := by rw [o3.1]
                have q2 : (wipeE env3 vs)[i]? = (wipeE (wipeE env vs) vs)[i]? := by rw [o3.2]
                rw [wipe_out hm, wipe_out hm, wipe_out hm] at q1
                rw [wipeE_out hm, wipeE_out hm, wipeE_out hm] at q2
                exact w.bos i di (q2.symm.trans e) (q1.symm.trans z)
            refine ⟨G4, F4, env3, g4, ok1, M.wp_mono (M.wpb q) fun es q J1 G5 F5 H5 e5 g5 its1 hz1 => ?_⟩
            have xx := e3.trans (e4.trans e5)
            obtain ⟨us, u1, u2, u3⟩ := w.at_
            have eo : o = .lst us := by rw [u1] at ho; exact (Option.some.inj ho).symm
            have k5 : G5 p = some o := xx.g _ _ upd_same
            have f5 : F5 p = none := xx.n p f2 (by rw [upd_same]; simp)
            have wi : Grow S (delH G5 p) F5 σ3 env3 p H5 acc acc.length (delH G5 p) F5 := Grow.inner g5 k5 f5 eo (u2.mono xx.f) (by rw [(u2.mono xx.f).len]; exact Nat.le_refl _) nb3
            refine ⟨fun j l H => l = es.length - j ∧ j ≤ es.length ∧ ∃ G6 F6 acc, Grow S (delH G5 p) F5 σ3 env3 p H acc acc.length G6 F6 ∧ acc.length ≤ sizeLine ∧
              (mLc2I vs1 g1 mt1 me env3 (es.drop j) acc).wp (fun acc' => (mLc2L vs vs1 gg mt mi1 g1 mt1 me (wipeE env vs) (ds.drop (i + 1)) acc').wp (fun ys => PostF S G F σ env Q (.lst ys))),
              ⟨es.length, by simp, Nat.zero_le _, _, _, acc, wi, hacc, by rw [List.drop_zero]; exact M.wpb q⟩, ?_⟩
            rintro j l H ⟨rfl, hj, G6, F6, acc6, w6, hacc6, q⟩
            have comp1 : (imComp vs1).P F5 σ3 env3 F6 σ3 env3 := ⟨w6.x.f, fun _ _ => ⟨rfl, rfl⟩⟩
            by_cases hlt1 : j < es.length
            · obtain ⟨o6, ho6, xb6, gb6⟩ := w6.blk vs1 nst.1 nst.2
              have compW1 : (imComp vs1).P F5 σ3 env3 F6 (wipe σ3 vs1) (wipeE env3 vs1) := ⟨w6.x.f, fun j hj => ⟨wipe_out hj, wipeE_out hj⟩⟩
              refine .inr ⟨its1.go j _ _ _ H _ compW1 gb6 hlt1, fun H => ∃ G6 F6 acc, Grow S (delH G5 p) F5 σ3 env3 p H acc acc.length G6 F6 ∧ acc.length ≤ sizeLine ∧
                (mLc2I vs1 g1 mt1 me env3 (es.drop (j + 1)) acc).wp (fun acc' => (mLc2L vs vs1 gg mt mi1 g1 mt1 me (wipeE env vs) (ds.drop (i + 1)) acc').wp (fun ys => PostF S G F σ env Q (.lst ys))),
                fun H' h => ⟨es.length - (j + 1), by omega, rfl, hlt1, h⟩, fun x H' y => ?_⟩
              obtain ⟨G7, F7, e7, g7, r7⟩ := its1.yld j _ _ _ H _ x H' es[j] compW1 gb6 (by simp [hlt1]) y
              rw [List.drop_eq_getElem_cons hlt1] at q
              refine ⟨G7, F7, wipeE env3 vs1, es[j], g7, r7, M.wp_mono (M.wpb q) fun env8 q σ8 o8 g8 => ⟨?_, G7, F7, env8, g8, M.wp_mono (M.wpb q) fun k q G9 F9 H9 e9 g9 => ?_⟩⟩
              · rw [o8.1, wipe_idem]
              · cases k with
                | false =>
                  rw [if_neg (by decide)] at q
                  refine L2.iteF ?_
                  have w' := w6.skip ho6 ok1 (e7.trans e9) o8 g9
                  obtain ⟨us', v1, v2, v3⟩ := w'.at_
                  exact ⟨delH G9 p, F9, acc6, ⟨w'.x, w'.g, w'.no, w'.ows, ⟨us', v1, v2, by rw [v2.len]; exact Nat.le_refl _⟩, w'.bos⟩, hacc6, q⟩
                | true =>
                  rw [if_pos rfl] at q
                  refine L2.iteT ?_
                  refine ⟨G9, F9, env8, g9, M.wp_mono (M.wpb q) fun yd q u G10 F10 H10 e10 g10 r10 => ?_⟩
                  split at q
                  · rename_i hsz
                    obtain ⟨us', hus, hul, w'⟩ := w6.next ho6 ok1 (e7.trans (e9.trans e10)) o8 g10 r10
                    refine ⟨us', hus, by omega, delH G10 p, F10, acc6 ++ [yd], ?_, by rw [List.length_append, List.length_singleton]; omega, q⟩
                    rw [List.length_append, List.length_singleton]
                    exact w'
                  · exact q.elim
            · have ej : j = es.length := by omega
              subst ej
              rw [List.drop_length] at q
              exact .inl ⟨its1.stop _ G6 F6 σ3 H env3 comp1 w6.g (Nat.le_refl _), G6, F6, acc6, w.outer ho ok xx o3 w6, hacc6, q⟩
          · exact q.elim
    · have e : i = ds.length := by omega
      subst e
      rw [List.drop_length] at q
      obtain ⟨us, h1, h2, h3⟩ := w.at_
      refine .inl ⟨its.stop _ G2 F2 σ H env comp w.g (Nat.le_refl _), ?_⟩
      have q' : PostF S G F σ env Q (.lst acc) := q
      exact q' p G2 F2 H (e1.trans w.x) w.g ⟨w.no, nst.1, nst.2, w.ows, us, h1, h2, by omega⟩
  · exact q.elim
theorem qlc2 (own : List (Str × Nat)) (vs1 : List Nat) {tg iter tg1 iter1 : Expr} {ifs ifs1 : List Expr} {scope : Scope} {mi mi1 : DI} {gg g1 : DG} {mt mt1 : DT} {me : DE} (hN : X.N.Nodup) (hi : QI (imComp (own.map (·.2))) S X tg iter mi) (ok : BlkOk X.N X.env.scope scope own)
    (hg : ∀ (s : Shared) (H : Hp) (C : Addr) (cl : List (Str × Addr)) (fp : List Addr), QG S (own.map (·.2)) (X.blk s H scope (compEnvC scope cl C X.env) fp) tg gg) (ht : ∀ (s : Shared) (H : Hp) (C : Addr) (cl : List (Str × Addr)) (fp : List Addr), QTs S (X.blk s H scope (compEnvC scope cl C X.env) fp) ifs mt)
    (hi1 : ∀ (s : Shared) (H : Hp) (C : Addr) (cl : List (Str × Addr)) (fp : List Addr), QI (imComp vs1) S (X.blk s H scope (compEnvC scope cl C X.env) fp) tg1 iter1 mi1)
    (hg1 : ∀ (s : Shared) (H : Hp) (C : Addr) (cl : List (Str × Addr)) (fp : List Addr), QG S vs1 (X.blk s H scope (compEnvC scope cl C X.env) fp) tg1 g1) (ht1 : ∀ (s : Shared) (H : Hp) (C : Addr) (cl : List (Str × Addr)) (fp : List Addr), QTs S (X.blk s H scope (compEnvC scope cl C X.env) fp) ifs1 mt1)
    (he : ∀ (s : Shared) (H : Hp) (C : Addr) (cl : List (Str × Addr)) (fp : List Addr), QE S (X.blk s H scope (compEnvC scope cl C X.env) fp) e me) (hv : ∀ i ∈ vs1, i ∈ own.map (·.2) := by decide) (hc : X.calm = true := by rfl) (hs : ∀ x, foldedSetIterable iter X.env x = pure x := by intro _; rfl)
    (hs1 : ∀ env x, foldedSetIterable iter1 env x = pure x := by intro _ _; rfl) :
    QF S X (.ListComp e [⟨tg, iter, ifs, 0⟩, ⟨tg1, iter1, ifs1, 0⟩] scope pos) (mLc2 (own.map (·.2)) vs1 mi gg mt mi1 g1 mt1 me) :=
  pe_weak (pe_lc2 hc hN hi ok hv hg ht hi1 hg1 ht1 he hs hs1) fun σ H Q ⟨G, F, env, g, q⟩ => lc2_read hv g q
theorem mLc2_lst {vs vs1 : List Nat} {mi mi1 : DI} {gg g1 : DG} {mt mt1 : DT} {me : DE} {P : D → Prop} (q : (mLc2 vs vs1 mi gg mt mi1 g1 mt1 me env).wp P) : (mLc2 vs vs1 mi gg mt mi1 g1 mt1 me env).wp fun d => ∃ xs, d = .lst xs ∧ P d := by
  unfold mLc2 at q ⊢
  split at q
  · rename_i h
    rw [if_pos h]
    exact M.wp_bind.mpr (M.wp_mono (M.wpb q) fun ds q => M.wp_bind.mpr (M.wp_mono (M.wpb q) fun ys q => ⟨ys, rfl, q⟩))
  · exact q.elim
theorem qsetLc2V (i : Nat) (own : List (Str × Nat)) (vs1 : List Nat) {y : Str} {py : Pos} {tg iter tg1 iter1 : Expr} {ifs ifs1 : List Expr} {scope : Scope} {mi mi1 : DI} {gg g1 : DG} {mt mt1 : DT} {me : DE} (hN : X.N.Nodup) (hi : QI (imComp (own.map (·.2))) S X tg iter mi) (ok : BlkOk X.N X.env.scope scope own)
    (hg : ∀ (s : Shared) (H : Hp) (C : Addr) (cl : List (Str × Addr)) (fp : List Addr), QG S (own.map (·.2)) (X.blk s H scope (compEnvC scope cl C X.env) fp) tg gg) (ht : ∀ (s : Shared) (H : Hp) (C : Addr) (cl : List (Str × Addr)) (fp : List Addr), QTs S (X.blk s H scope (compEnvC scope cl C X.env) fp) ifs mt)
    (hi1 : ∀ (s : Shared) (H : Hp) (C : Addr) (cl : List (Str × Addr)) (fp : List Addr), QI (imComp vs1) S (X.blk s H scope (compEnvC scope cl C X.env) fp) tg1 iter1 mi1)
    (hg1 : ∀ (s : Shared) (H : Hp) (C : Addr) (cl : List (Str × Addr)) (fp : List Addr), QG S vs1 (X.blk s H scope (compEnvC scope cl C X.env) fp) tg1 g1) (ht1 : ∀ (s : Shared) (H : Hp) (C : Addr) (cl : List (Str × Addr)) (fp : List Addr), QTs S (X.blk s H scope (compEnvC scope cl C X.env) fp) ifs1 mt1)
    (he : ∀ (s : Shared) (H : Hp) (C : Addr) (cl : List (Str × Addr)) (fp : List Addr), QE S (X.blk s H scope (compEnvC scope cl C X.env) fp) e me)
    (hsw : swapsWith (.ListComp e [⟨tg, iter, ifs, 0⟩, ⟨tg1, iter1, ifs1, 0⟩] scope pos) (some (.Name y py)) pp.line X.env = pure true) (hv : ∀ i ∈ vs1, i ∈ own.map (·.2) := by decide)
    (hy : X.N[i]? = some y := by rfl) (hyl : X.env.scope.names.lookup y = some .local := by rfl) (hc : X.calm = true := by rfl) (hs : ∀ x, foldedSetIterable iter X.env x = pure x := by intro _; rfl)
    (hs1 : ∀ env x, foldedSetIterable iter1 env x = pure x := by intro _ _; rfl) :
    QS S X (.Assign [.Name y py] (.ListComp e [⟨tg, iter, ifs, 0⟩, ⟨tg1, iter1, ifs1, 0⟩] scope pos) pp) (mSetV i (mLc2 (own.map (·.2)) vs1 mi gg mt mi1 g1 mt1 me)) :=
  ps_weak (ps_setLc2 hc hN hy hyl hsw hi ok hv hg ht hi1 hg1 ht1 he hs hs1) fun D' σ H ⟨G, F, env, g, q⟩ => by
    show tLc2 _ _ _ _ _ _ _ _ _ σ H fun x H1 => gName i x σ H1 D'.nx
    refine lc2_read hv g (M.wp_mono (mLc2_lst (M.wpb q)) fun d q => ?_)
    obtain ⟨xs, rfl, q⟩ := q
    exact postF_set q
/-! ### three names at once -/
theorem qpar3 (i j l : Nat) {x y z : Str} {px py pz pt : Pos} {kt k2 pt2} (hN : X.N.Nodup) (ha : QA S X [a, b, c] ms) (hi : X.N[i]? = some x := by rfl) (hj : X.N[j]? = some y := by rfl) (hl : X.N[l]? = some z := by rfl) (hij : i ≠ j := by decide) (hil : i ≠ l := by decide) (hjl : j ≠ l := by decide)
    (hx : X.env.scope.names.lookup x = some .local := by rfl) (hy : X.env.scope.names.lookup y = some .local := by rfl) (hz : X.env.scope.names.lookup z = some .local := by rfl) (hc : X.calm = true := by rfl)
    (hw : swappedStores [.Tuple [.Name x px, .Name y py, .Name z pz] kt pt] (.Tuple [a, b, c] k2 pt2) X.env = pure (some [x, y, z]) := by rfl)
    (hs : swapsWithSole [.Tuple [.Name x px, .Name y py, .Name z pz] kt pt] (.Tuple [a, b, c] k2 pt2) pos.line X.env = pure false := by rfl) :
    QS S X (.Assign [.Tuple [.Name x px, .Name y py, .Name z pz] kt pt] (.Tuple [a, b, c] k2 pt2) pos) (mPar3 i j l ms) :=
  ps_weak (ps_par3 hc hN hi hj hl hij hil hjl hx hy hz ha hw hs) fun D' σ H ⟨G, F, env, g, q⟩ => ⟨G, F, env, g, M.wp_mono (M.wpb q) fun ds q vs G1 F1 H1 e1 g1 r1 => by
    cases r1 with
    | nil => exact q.elim
    | cons r t =>
      cases t with
      | nil => exact q.elim
      | cons r' t =>
        cases t with
        | nil => exact q.elim
        | cons r'' t =>
          cases t with
          | nil => exact ⟨_, _, _, rfl, q _ G1 F1 H1 e1 (((g1.setVal r).setVal r').setVal r'')⟩
          | cons _ _ => exact q.elim⟩
end
end DL

set_option Elab.async false
set_option linter.all false
set_option maxRecDepth 100000
/-! DL10: stores into own lists and dicts, more of what is built in. -/
namespace DL
open PySem PySem.Spec L2
open PyProof.Rows hiding St

section
variable {S : SA} {X : Cx} {G F G' F' H H' : Hp} {σ : L2.St} {env : DEnv} {d : D} {v : V} {p : Addr} {Q : VK} {m ma mb mc mk mv : DE} {t ta tb : DT} {ms : DA} {a b c e : Expr} {es rest : List Expr} {pos pp : Pos} {x : Str} {i : Nat}
/-! ### // and * -/
theorem o_fdiv : OpD S X (binaryOp .FloorDiv) dFdiv := opD_I op_fdiv fun i j h => by
  simp only [Bool.and_eq_true, decide_eq_true_eq] at h
  exact ⟨h.1, by have := h.2; omega⟩
def dRep : D → D → M D
  | .lst xs, .int k => if decide (-(2 ^ 63) ≤ k) && (decide (k < 2 ^ 63) && decide (xs.length * k.toNat ≤ sizeLine)) then .ret (.lst (List.replicate k.toNat xs).flatten) else .fail
  | _, _ => .fail
theorem rep_rpl {ds : List D} {vs : List V} (r : RpL S F ds vs) : ∀ n : Nat, RpL S F (List.replicate n ds).flatten (List.replicate n vs).flatten
  | 0 => .nil
  | n + 1 => by
    rw [List.replicate_succ, List.replicate_succ, List.flatten_cons, List.flatten_cons]
    exact r.append (rep_rpl r n)
theorem rep_len {α : Type} (l : List α) : ∀ n : Nat, (List.replicate n l).flatten.length = n * l.length
  | 0 => by simp
  | n + 1 => by rw [List.replicate_succ, List.flatten_cons, List.length_append, rep_len l n, Nat.succ_mul]; omega
theorem o_rep : OpF S X (binaryOp .Mult) dRep := ⟨_, op_rep, fun G F σ H env x y d e Q g r1 r2 q => by
  cases d with
  | lst xs =>
    cases e with
    | int k =>
      simp only [dRep] at q
      split at q
      · rename_i hc
        simp only [Bool.and_eq_true, decide_eq_true_eq] at hc
        obtain ⟨p, vs, rfl, h1, l1, z1⟩ := r1.lst g
        obtain rfl := r2.int g
        have n1 := l1.len
        refine ⟨p, k, vs, rfl, rfl, h1, hc.1, hc.2.1, by rw [← n1]; exact hc.2.2, fun t ht => PostF.lst q g ht (rep_rpl l1 _) ?_⟩
        rw [rep_len, ← n1, Nat.mul_comm]
        exact hc.2.2
      · exact q.elim
    | _ => exact q.elim
  | _ => exact q.elim⟩
/-! ### an own list: extend, xs[k] = v -/
theorem wp_det {α β : Type} {mm : M α} {f : α → M β} {P : β → Prop} {R : Prop} (h1 : mm.wp fun a => (f a).wp P) (h2 : ∀ a, (f a).wp P → R) : R := by
  induction mm with
  | ret a => exact h2 a h1
  | fail => exact h1.elim
  | ask k g ih => exact ih 0 (h1.2 0 (Int.le_refl _) h1.1.1)
def mExtend (i : Nat) (m : DE) : DS := fun env => m env >>= fun d => match env[i]?, d with
  | some (some (.own (.lst xs))), .lst ys => if xs.length + ys.length ≤ sizeLine then .ret (.nx, env.set i (some (.own (.lst (xs ++ ys))))) else .fail
  | _, _ => .fail
theorem qextend (i : Nat) {x : Str} {np apos cpos epos : Pos} (ha : QB S X e m) (hN : X.N[i]? = some x := by rfl) (hv : Vis X.env.scope x := by first | exact Or.inl rfl | exact Or.inr (Or.inl rfl) | exact Or.inr (Or.inr rfl)) (hd : (x == ("__debug__" : Str)) = false := by decide)
    (hcd : (x == ("__classdict__" : Str)) = false := by decide) (n1 : starEach [e] X.env = (false, eval e X.env) :: starEach [] X.env := by rfl)
    (hbase : attributeBase (.Name x np) "extend" X.env (eval (.Name x np) X.env) = eval (.Name x np) X.env := by rfl)
    (hfew : ((backTo cpos (starEach [e] X.env)).all (fun x => !x.1) && (backToKw cpos (keywordEach [] X.env)).all (fun x => x.1.isSome)
      && decide ([e].length + ([] : List Keyword).length + (if ([] : List Keyword).isEmpty then 0 else 1) < 30)) = true := by rfl)
    (hline : (apos.endLine == cpos.line) = true := by rfl) (hplain : (backTo cpos (starEach [] X.env)).any (·.1) = false := by rfl) (hs : swapsWith (.Call (.Attribute (.Name x np) "extend" apos) [e] [] cpos) none epos.line X.env = pure false := by rfl) :
    QS S X (.Expr (.Call (.Attribute (.Name x np) "extend" apos) [e] [] cpos) epos) (mExtend i m) :=
  ps_weak (ps_expr (pe_bm PySem.F.plainAttrs_list PySem.F.slot_list_extend PySem.F.type_list_extend mt_extend (pe_var hN hv hd hcd) (qab_cons ha qab_nil n1) hbase hfew hline n1 hplain) hs) fun D' σ H ⟨G, F, env, g, q⟩ => by
    obtain ⟨xs, e⟩ : ∃ xs, env[i]? = some (some (.own (.lst xs))) := wp_det (M.wpb q) fun a h => by
      split at h
      · rename_i xs ys e; exact ⟨xs, e⟩
      · exact h.elim
    obtain ⟨a, ha', _, _, _, vs, hv', _⟩ := g.slot i _ e
    refine ⟨.ref a, ha', .inl ⟨rfl, vs, .of hv'⟩, G, F, env, g, ?_⟩
    have q' := M.wpb q
    rw [e] at q'
    show M.wp (M.bind (m env) fun x => M.bind (M.ret []) fun xs => M.ret (x :: xs)) _
    rw [M.wp_bind]
    refine M.wp_mono q' fun d q us G1 F1 H1 e1 g1 r1 => ?_
    split at q
    · rename_i _ _ xs' ys q0
      cases q0
      split at q
      · cases r1 with
        | cons r t =>
          cases t
          obtain ⟨p2, zs, rfl, z1, z2, z3⟩ := r.lst g1
          obtain ⟨b, b1, b2, b3, b4, ws, b5, b6, b7⟩ := g1.slot i _ e
          rw [ha'] at b1
          cases b1
          have n := b6.len
          have n2 := z2.len
          exact ⟨a, p2, ws, zs, rfl, rfl, b5, z1, by omega, q _ G1 F1 _ e1 (g1.ownSet e ha' (b6.append z2) (by rw [List.length_append]; omega))⟩
      · exact q.elim
    · exact q.elim
def mPutL (i : Nat) (mk mv : DE) : DS := fun env => mv env >>= fun d => mk env >>= fun k => match env[i]?, k with
  | some (some (.own (.lst xs))), .int j => match ixN xs.length j with
    | some n => .ret (.nx, env.set i (some (.own (.lst (xs.set n d)))))
    | none => .fail
  | _, _ => .fail
theorem qputL (i : Nat) {x : Str} {np tpos : Pos} (hk : QB S X b mk) (hv' : QE S X e mv) (hN : X.N[i]? = some x := by rfl) (hv : Vis X.env.scope x := by first | exact Or.inl rfl | exact Or.inr (Or.inl rfl) | exact Or.inr (Or.inr rfl)) (hd : (x == ("__debug__" : Str)) = false := by decide)
    (hcd : (x == ("__classdict__" : Str)) = false := by decide)
    (ha : ∀ v, assign (.Subscript (.Name x np) b tpos) X.env v = (do
      let ov ← holding [v] (eval (.Name x np) X.env)
      let iv ← holding [v, ov] (eval b X.env)
      standAt tpos
      holding [v, ov, iv] (setItem ov iv v)
      release [v, ov, iv] []) := by intro _; rfl)
    (hs : swapsWithSole [.Subscript (.Name x np) b tpos] e pos.line X.env = pure false := by rfl) (hw : swappedStores [.Subscript (.Name x np) b tpos] e X.env = pure none := by rfl)
    (h1 : (assignEach [.Subscript (.Name x np) b tpos] X.env).map (·.2) = [assign (.Subscript (.Name x np) b tpos) X.env] := by rfl) : QS S X (.Assign [.Subscript (.Name x np) b tpos] e pos) (mPutL i mk mv) :=
  ps_weak (ps_asg hv' (pg_sub (pe_var hN hv hd hcd) hk set_list ha) hs hw h1) fun D' σ H ⟨G, F, env, g, q⟩ => by
    refine ⟨G, F, env, g, M.wp_mono (M.wpb q) fun d q v G1 F1 H1 e1 g1 r1 => ?_⟩
    obtain ⟨xs, e⟩ : ∃ xs, env[i]? = some (some (.own (.lst xs))) := wp_det (M.wpb q) fun a h => by
      split at h
      · rename_i xs j e; exact ⟨xs, e⟩
      · exact h.elim
    obtain ⟨a, ha', _, _, _, vs, hv', _⟩ := g1.slot i _ e
    have q' := M.wpb q
    rw [e] at q'
    refine ⟨.ref a, ha', G1, F1, env, g1, M.wp_mono q' fun k q u G2 F2 H2 e2 g2 r2 => ?_⟩
    split at q
    · rename_i _ _ xs' j q0
      cases q0
      split at q
      · rename_i n hn
        obtain rfl := r2.int g2
        obtain ⟨b, b1, b2, b3, b4, ws, b5, b6, b7⟩ := g2.slot i _ e
        rw [ha'] at b1
        cases b1
        exact ⟨a, ws, j, n, rfl, rfl, b5, by rw [← b6.len]; exact hn, q _ G2 F2 _ (e1.trans e2) (g2.ownSet e ha' (RpL.set (r1.mono e2.f) n b6) (by rw [List.length_set]; exact b7))⟩
      · exact q.elim
    · exact q.elim
/-! ### dicts: new ones, d[k] = v, d.get(k, x) -/
def mNewK : DE := fun _ => .ret (.dct false [])
def mNewT : DE := fun _ => .ret (.dct true [])
theorem qnewK : QF S X (.Dict [] [] pos) mNewK := pe_weak pe_dnewK fun σ H Q ⟨G, F, env, g, q⟩ p hp =>
  (show PostF S G F σ env Q (.dct false []) from q) p G F _ (Ext.refl _ _) (g.new hp _) ⟨g.no hp, (g.stNe hp).1, (g.stNe hp).2, g.ownNe hp, [], upd_same, .nil, Nat.zero_le _⟩
theorem qnewT : QF S X (.Dict [] [] pos) mNewT := pe_weak pe_dnewT fun σ H Q ⟨G, F, env, g, q⟩ p hp =>
  (show PostF S G F σ env Q (.dct true []) from q) p G F _ (Ext.refl _ _) (g.new hp _) ⟨g.no hp, (g.stNe hp).1, (g.stNe hp).2, g.ownNe hp, [], upd_same, .nil, Nat.zero_le _⟩
/-- an own object at name i is another one -/
theorem Good.ownPut {u : HO} {d' : D} (g : Good S G F σ H env) (e : env[i]? = some (some (.own d))) (hp : σ[i]? = some (some (.ref p))) (o : OwnR S F (upd H p u) p d') : Good S G F σ (upd H p u) (env.set i (some (.own d'))) := by
  obtain ⟨a, h1, h2, h3, h4, h5⟩ := g.slot i _ e
  rw [hp] at h1
  cases h1
  have hi : i < env.length := (List.getElem?_eq_some_iff.mp e).1
  refine ⟨fun b u q => ?_, g.fg, ⟨g.st.1, ?_⟩, g.ns, g.nc, by rw [List.length_set]; exact g.len, fun j sl q => ?_, fun j k dj dk b e1 e2 e3 e4 => ?_⟩
  · have nb : b ≠ p := fun z => by rw [z, h2] at q; cases q
    rw [upd_ne nb]; exact g.kp b u q
  · obtain ⟨_, n, cs, q1, q2, q3⟩ := g.st
    exact ⟨n, cs, by rw [upd_ne h3.symm]; exact q1, by rw [upd_ne h4.symm]; exact q2, q3⟩
  · by_cases hij : i = j
    · subst hij
      rw [List.getElem?_set_self hi] at q
      cases q
      exact ⟨p, hp, h2, h3, h4, o⟩
    · rw [List.getElem?_set_ne hij] at q
      have w := g.slot j sl q
      cases sl with
      | val d' => exact w
      | bor d' => exact w
      | own d' =>
        obtain ⟨b, w1, w2, w3, w4, w5⟩ := w
        have nb : b ≠ p := by
          rintro rfl
          exact hij (g.dist i j _ _ b e q hp w1)
        exact ⟨b, w1, w2, w3, w4, ownR_mono (Sub.refl _) (fun o z => by rw [upd_ne nb]; exact z) w5⟩
  · have fix : ∀ (l : Nat) (dl : D), (env.set i (some (.own d')))[l]? = some (some (.own dl)) → ∃ dl', env[l]? = some (some (.own dl')) := fun l dl q => by
      by_cases hl : i = l
      · subst hl; exact ⟨d, e⟩
      · rw [List.getElem?_set_ne hl] at q; exact ⟨dl, q⟩
    obtain ⟨_, f1⟩ := fix j dj e1
    obtain ⟨_, f2⟩ := fix k dk e2
    exact g.dist j k _ _ b f1 f2 e3 e4
def mPutD (i : Nat) (mk mv : DE) : DS := fun env => mv env >>= fun d => mk env >>= fun k => match env[i]? with
  | some (some (.own (.dct t kvs))) => if keyOk t k && decide (kvs.length < sizeLine) then .ret (.nx, env.set i (some (.own (.dct t (putD kvs k d))))) else .fail
  | _ => .fail
theorem qputD (i : Nat) {x : Str} {np tpos : Pos} (hu : X.A.units + 1 < cLine) (hk : QB S X b mk) (hv' : QE S X e mv) (hN : X.N[i]? = some x := by rfl) (hv : Vis X.env.scope x := by first | exact Or.inl rfl | exact Or.inr (Or.inl rfl) | exact Or.inr (Or.inr rfl)) (hd : (x == ("__debug__" : Str)) = false := by decide)
    (hcd : (x == ("__classdict__" : Str)) = false := by decide) (hs : swapsWith e (some (.Subscript (.Name x np) b tpos)) pos.line X.env = pure false := by rfl) : QS S X (.Assign [.Subscript (.Name x np) b tpos] e pos) (mPutD i mk mv) :=
  ps_weak (ps_dput hu (pe_var hN hv hd hcd) hk hv' hs) fun D' σ H ⟨G, F, env, g, q⟩ => by
    refine ⟨G, F, env, g, M.wp_mono (M.wpb q) fun d q v G1 F1 H1 e1 g1 r1 => ?_⟩
    obtain ⟨t, kvs, e⟩ : ∃ t kvs, env[i]? = some (some (.own (.dct t kvs))) := wp_det (M.wpb q) fun a h => by
      split at h
      · rename_i t kvs e; exact ⟨t, kvs, e⟩
      · exact h.elim
    obtain ⟨a, ha', _⟩ := g1.slot i _ e
    have q' := M.wpb q
    rw [e] at q'
    refine ⟨.ref a, ha', G1, F1, env, g1, M.wp_mono q' fun k q u G2 F2 H2 e2 g2 r2 => ?_⟩
    simp only at q
    split at q
    · rename_i hc
      rw [Bool.and_eq_true, decide_eq_true_eq] at hc
      obtain ⟨b, b1, b2, b3, b4, ow⟩ := g2.slot i _ e
      rw [ha'] at b1
      cases b1
      have r2 := r2.rp g2 (keyOk_mut hc.1)
      cases t with
      | false =>
        obtain ⟨es, o1, o2, o3⟩ := ow
        obtain ⟨kk, k1, rfl⟩ := key_of_isKey hc.1 r2
        have n := o2.len
        have nz : es.length < sizeLine := by omega
        refine ⟨a, _, rfl, .inl ⟨es, kk, o1, rfl, nz, rfl⟩, q _ G2 F2 _ (e1.trans e2) (g2.ownPut e ha' ⟨_, upd_same, o2.put k1 (r1.mono e2.f), ?_⟩)⟩
        have := putK_le es kk v
        omega
      | true =>
        cases k with
        | tup ds =>
          cases r2 with
          | tup f1 f2 f3 =>
            obtain ⟨es, o1, o2, o3⟩ := ow
            obtain ⟨ks, k1, rfl⟩ := keys_of_all hc.1 f2
            have n := o2.len
            have nz : es.length < sizeLine := by omega
            refine ⟨a, _, rfl, .inr ⟨es, ks, _, o1, rfl, g2.fh _ _ f1, nz, rfl⟩, q _ G2 F2 _ (e1.trans e2) (g2.ownPut e ha' ⟨_, upd_same, o2.put k1 (r1.mono e2.f), ?_⟩)⟩
            have := putK_le es ks v
            omega
        | _ => cases hc.1
    · exact q.elim
def mGet2 (mo mk mx : DE) : DE := fun env => mo env >>= fun o => match o with
  | .dct t kvs => mk env >>= fun k => mx env >>= fun x => if keyOk t k then .ret ((valD kvs k).getD x) else .fail
  | _ => .fail
theorem isD_of {t : Bool} {kvs : List (D × D)} (g : Good S G F σ H env) (r1 : RdB S F σ env (.dct t kvs) v) : ∃ a, v = .ref a ∧ IsD H a := by
  cases t with
  | false => obtain ⟨p, es, rfl, h1, _⟩ := r1.dctK g; exact ⟨p, rfl, .inl ⟨es, h1⟩⟩
  | true => obtain ⟨p, es, rfl, h1, _⟩ := r1.dctT g; exact ⟨p, rfl, .inr ⟨es, h1⟩⟩
theorem qget2 {o : Expr} {apos cpos : Pos} (hu : X.A.units + 1 < cLine) (ho : QB S X o m) (hk : QB S X a ma) (hx : QE S X b mb) (hbase : attributeBase o "get" X.env (eval o X.env) = eval o X.env := by rfl)
    (hfew : ((backTo cpos (starEach [a, b] X.env)).all (fun x => !x.1) && (backToKw cpos (keywordEach [] X.env)).all (fun x => x.1.isSome)
      && decide (([a, b] : List Expr).length + ([] : List Keyword).length + (if ([] : List Keyword).isEmpty then 0 else 1) < 30)) = true := by rfl)
    (hline : (apos.endLine == cpos.line) = true := by rfl) (htr : backTo cpos (starEach [a, b] X.env) = [(false, eval a X.env), (false, eval b X.env)] := by rfl) : QE S X (.Call (.Attribute o "get" apos) [a, b] [] cpos) (mGet2 m ma mb) :=
  pe_weak (pe_dget2 hu ho hk hx ⟨hbase, hfew, hline, htr⟩) fun σ H Q ⟨G, F, env, g, q⟩ => ⟨G, F, env, g, M.wp_mono (M.wpb q) fun d q v G1 F1 H1 e1 g1 r1 => by
    cases d with
    | dct t kvs =>
      obtain ⟨a, rfl, hd⟩ := isD_of g1 r1
      refine ⟨a, rfl, hd, G1, F1, env, g1, M.wp_mono (M.wpb q) fun k q u G2 F2 H2 e2 g2 r2 => ⟨G2, F2, env, g2, M.wp_mono (M.wpb q) fun x q z G3 F3 H3 e3 g3 r3 => ?_⟩⟩
      split at q
      · obtain ⟨a', ov, ea, dg, _, ro⟩ := dget_of g3 (r1.mono (e2.f.trans e3.f)) (r2.mono e3.f) (by assumption)
        cases ea
        refine ⟨ov, dg, (post_shift (e1.trans (e2.trans e3)) q).now g3 ?_⟩
        cases ov with
        | none =>
          cases hh : valD kvs k with
          | none => exact r3
          | some w => rw [hh] at ro; exact ro.elim
        | some w =>
          cases hh : valD kvs k with
          | none => rw [hh] at ro; exact ro.elim
          | some y => rw [hh] at ro; exact ro
      · exact q.elim
    | _ => exact q.elim⟩
/-! ### range with a step, zip -/
def rgD3 (a c : Int) (n : Nat) : List D := (List.range n).map fun i => D.int (a + (i : Nat) * c)
theorem its_rng3 {P : Hp → L2.St → DEnv → Prop} {a c : Int} {n : Nat} : ItsD S (Itc a c n) P (rgD3 a c n) where
  go := fun i G2 F2 σ2 H2 env2 hp g hi => by
    unfold rgD3 at hi
    rw [List.length_map, List.length_range] at hi
    exact hi
  stop := fun i G2 F2 σ2 H2 env2 hp g hi => by
    unfold rgD3 at hi
    rw [List.length_map, List.length_range] at hi
    exact hi
  yld := fun i G2 F2 σ2 H2 env2 v H3 d hp g hd y => by
    obtain ⟨e, ev⟩ := y
    subst e ev
    unfold rgD3 at hd
    rw [List.getElem?_map] at hd
    cases hr : (List.range n)[i]? with
    | none => rw [hr] at hd; cases hd
    | some j =>
      rw [hr] at hd
      obtain ⟨hl, e⟩ := List.getElem?_eq_some_iff.mp hr
      rw [List.getElem_range] at e
      subst e
      cases hd
      exact ⟨G2, F2, Ext.refl _ _, g, .int _⟩
/-- only steps by -1 are told -/
def iRg3 (ma mb mc : DE) : DI := fun env => ma env >>= fun x => mb env >>= fun y => mc env >>= fun z => asI x >>= fun i => asI y >>= fun j => asI z >>= fun k => if decide (k = -1) && (rgOk j i) then .ret (rgD3 i (-1) (i - j).toNat) else .fail
theorem qi_rg3 {I : IM} {tg : Expr} (hg : Gl X "range") (hm : X.mg "range" = none) (ha : QB S X a ma) (hb : QB S X b mb) (hc : QB S X c mc) (n1 : starEach [a, b, c] X.env = (false, eval a X.env) :: starEach [b, c] X.env := by rfl) (n2 : starEach [b, c] X.env = (false, eval b X.env) :: starEach [c] X.env := by rfl)
    (n3 : starEach [c] X.env = (false, eval c X.env) :: starEach [] X.env := by rfl) (hpl : (backTo pos (starEach [b, c] X.env)).any (·.1) = false := by rfl) : QI I S X tg (.Call (.Name "range" pp) [a, b, c] [] pos) (iRg3 ma mb mc) :=
  pi_weak (pi_range3 hg hm (pa_cons ha (pa_cons hb (pa_cons hc pa_nil n3) n2) n1) n1 hpl) fun σ H R ⟨G, F, env, g, ok, q⟩ => ⟨G, F, env, g, M.wp_mono (M.wpb q) fun d q v G1 F1 H1 e1 g1 r1 => ⟨G1, F1, env, g1, M.wp_mono (M.wpb q) fun d2 q v2 G2 F2 H2 e2 g2 r2 => ⟨G2, F2, env, g2, M.wp_mono (M.wpb q) fun d3 q v3 G3 F3 H3 e3 g3 r3 => by
    obtain ⟨i, ei, q1⟩ := asI_wp (M.wpb q)
    obtain ⟨j, ej, q2⟩ := asI_wp (M.wpb q1)
    obtain ⟨k, ek, q3⟩ := asI_wp (M.wpb q2)
    subst ei ej ek
    obtain rfl := r1.int g1
    obtain rfl := r2.int g2
    obtain rfl := r3.int g3
    split at q3
    · rename_i hc
      rw [Bool.and_eq_true, decide_eq_true_eq] at hc
      obtain ⟨rfl, hc⟩ := hc
      obtain ⟨b1, b2, b3, b4, b5⟩ := rgOk_iff hc
      refine ⟨i, j, -1, _, rfl, RgC.neg b3 b4 b1 b2, q3 _ G3 F3 H3 (e1.trans (e2.trans e3)) g3 its_rng3 ?_⟩
      unfold rgD3
      rw [List.length_map, List.length_range, sizeLine_eq]
      exact b5
    · exact q3.elim⟩⟩⟩
def zipD : List D → List D → List D
  | a :: as, b :: bs => .tup [a, b] :: zipD as bs
  | _, _ => []
theorem zipD_len : ∀ as bs : List D, (zipD as bs).length = min as.length bs.length
  | [], _ => by simp [zipD]
  | _ :: _, [] => by simp [zipD]
  | a :: as, b :: bs => by simp [zipD, zipD_len as bs]
theorem zipD_get : ∀ (as bs : List D) (i : Nat) (x : D), (zipD as bs)[i]? = some x → ∃ a b, as[i]? = some a ∧ bs[i]? = some b ∧ x = .tup [a, b]
  | [], _, i, x, h => by simp [zipD] at h
  | _ :: _, [], i, x, h => by simp [zipD] at h
  | a :: as, b :: bs, 0, x, h => by simp [zipD] at h; exact ⟨a, b, rfl, rfl, h.symm⟩
  | a :: as, b :: bs, i + 1, x, h => by
    obtain ⟨u, w, h1, h2, h3⟩ := zipD_get as bs i x (by simpa [zipD] using h)
    exact ⟨u, w, by simpa using h1, by simpa using h2, h3⟩
theorem its_zip {I : IM} (O : IMOk I) {K : PySem.W.Frag} {xs ys : List D} {a b : Addr} (ok : I.ok env = true) (r : I.rd S F' σ env (.lst xs) (.ref a)) (r' : I.rd S F' σ env (.lst ys) (.ref b)) : ItsD S (Itz K a b) (I.P F' σ env) (zipD xs ys) where
  go := fun i G2 F2 σ2 H2 env2 hp g hi => by
    obtain ⟨p, vs, e, h1, l1, _⟩ := (O.toB (O.keep ok hp r)).lst g
    cases e
    obtain ⟨p', us, e, h2, l2, _⟩ := (O.toB (O.keep ok hp r')).lst g
    cases e
    rw [zipD_len, l1.len, l2.len] at hi
    have i1 : i < vs.length := by omega
    have i2 : i < us.length := by omega
    exact ⟨vs, us, vs[i], us[i], .of h1, .of h2, by simp [i1], by simp [i2]⟩
  stop := fun i G2 F2 σ2 H2 env2 hp g hi => by
    obtain ⟨p, vs, e, h1, l1, _⟩ := (O.toB (O.keep ok hp r)).lst g
    cases e
    obtain ⟨p', us, e, h2, l2, _⟩ := (O.toB (O.keep ok hp r')).lst g
    cases e
    rw [zipD_len, l1.len, l2.len] at hi
    exact ⟨vs, us, .of h1, .of h2, by omega⟩
  yld := fun i G2 F2 σ2 H2 env2 x H3 d hp g hd y => by
    obtain ⟨p, vs, e, h1, l1, _⟩ := (O.toB (O.keep ok hp r)).lst g
    cases e
    obtain ⟨p', us, e, h2, l2, _⟩ := (O.toB (O.keep ok hp r')).lst g
    cases e
    obtain ⟨T, y1, y2, rfl, nT, rfl, f1, f2⟩ := y
    obtain ⟨d1, d2, hd1, hd2, rfl⟩ := zipD_get xs ys i d hd
    obtain ⟨v1, hv1, rv1⟩ := l1.get hd1
    obtain ⟨v2, hv2, rv2⟩ := l2.get hd2
    have e1 := f1 vs (.of h1)
    have e2 := f2 us (.of h2)
    rw [hv1] at e1
    rw [hv2] at e2
    cases e1
    cases e2
    obtain ⟨x3, g3⟩ := g.newFrz nT (.tup [y1, y2])
    exact ⟨_, _, x3, g3, .tup upd_same (.cons (rv1.mono x3.f) (.cons (rv2.mono x3.f) .nil)) (by show 2 ≤ sizeLine; decide)⟩
def iZipD (m m' : DE) : DI := fun env => m env >>= fun x => m' env >>= fun y => match x, y with
  | .lst xs, .lst ys => .ret (zipD xs ys)
  | _, _ => .fail
theorem qi_zip {I : IM} (O : IMOk I) (O2 : ∀ {S : SA} {F F2 : Hp} {σ : L2.St} {env : DEnv} {d : D} {v : V}, Sub F F2 → I.rd S F σ env d v → I.rd S F2 σ env d v) {tpos : Pos} {elts : List Expr} {kk : Nat} (hg : Gl X "zip") (hm : X.mg "zip" = none) (ha : QX I S X a ma) (hb : QX I S X b mb)
    (n1 : starEach [a, b] X.env = (false, eval a X.env) :: starEach [b] X.env := by rfl) (n2 : starEach [b] X.env = (false, eval b X.env) :: starEach [] X.env := by rfl) (hpl : (backTo pos (starEach [b] X.env)).any (·.1) = false := by rfl) :
    QI I S X (.Tuple elts kk tpos) (.Call (.Name "zip" pp) [a, b] [] pos) (iZipD ma mb) :=
  pi_weak (pi_zip hg hm (pa_cons ha (pa_cons hb pa_nil n2) n1) n1 hpl) fun σ H R ⟨G, F, env, g, ok, q⟩ => ⟨G, F, env, g, M.wp_mono (M.wpb q) fun d q v G1 F1 H1 e1 g1 r1 => ⟨G1, F1, env, g1, M.wp_mono (M.wpb q) fun d2 q v2 G2 F2 H2 e2 g2 r2 => by
    cases d with
    | lst xs =>
      cases d2 with
      | lst ys =>
        have r1 := O2 e2.f r1
        obtain ⟨p, vs, rfl, h1, l1, z1⟩ := (O.toB r1).lst g2
        obtain ⟨p', us, rfl, h2, l2, z2⟩ := (O.toB r2).lst g2
        exact ⟨p, p', vs, us, rfl, .of h1, .of h2, q _ G2 F2 H2 (e1.trans e2) g2 (its_zip O ok r1 r2) (by rw [zipD_len, l1.len, l2.len]; omega)⟩
      | _ => exact q.elim
    | _ => exact q.elim⟩⟩
end
end DL

set_option Elab.async false
set_option linter.all false
set_option maxRecDepth 100000
/-! DL11: the order of trees that are alike; sorted. -/
namespace DL
open PySem PySem.Spec L2
open PyProof.Rows hiding St

mutual
def D.alk : D → D → Bool
  | .non, d => match d with
    | .non => true
    | _ => false
  | .int _, d => match d with
    | .int _ => true
    | _ => false
  | .str _, d => match d with
    | .str _ => true
    | _ => false
  | .tup xs, d => match d with
    | .tup ys => D.alkL xs ys
    | _ => false
  | .lst xs, d => match d with
    | .lst ys => D.alkL xs ys
    | _ => false
  | .bl _, _ => false
  | .dct _ _, _ => false
  | .dcn _, _ => false
  | .stt, _ => false
def D.alkL : List D → List D → Bool
  | [], _ => true
  | x :: xs, ds => match ds with
    | [] => true
    | y :: ys => D.alk x y && D.alkL xs ys
end
def natsLt : List Nat → List Nat → Bool
  | [], [] => false
  | [], _ :: _ => true
  | _ :: _, [] => false
  | a :: as, b :: bs => decide (a < b) || (decide (a = b) && natsLt as bs)
mutual
def D.lt : D → D → Bool
  | .int a, d => match d with
    | .int b => decide (a < b)
    | _ => false
  | .str a, d => match d with
    | .str b => natsLt a.cps.toList b.cps.toList
    | _ => false
  | .tup xs, d => match d with
    | .tup ys => D.ltL xs ys
    | _ => false
  | .lst xs, d => match d with
    | .lst ys => D.ltL xs ys
    | _ => false
  | .non, _ => false
  | .bl _, _ => false
  | .dct _ _, _ => false
  | .dcn _, _ => false
  | .stt, _ => false
def D.ltL : List D → List D → Bool
  | [], ds => match ds with
    | [] => false
    | _ :: _ => true
  | x :: xs, ds => match ds with
    | [] => false
    | y :: ys => if D.beq x y then D.ltL xs ys else D.lt x y
end
theorem natsLt_eq : ∀ a b : List Nat, natsLt a b = decide (a < b)
  | [], [] => by simp [natsLt]
  | [], b :: bs => by simp [natsLt]
  | a :: as, [] => by simp [natsLt]
  | a :: as, b :: bs => by
    rw [natsLt, natsLt_eq as bs]
    simp only [List.cons_lt_cons_iff]
    by_cases h : a < b
    · simp [h]
    · by_cases e : a = b
      · subst e; simp
      · simp [h, e]
theorem natsLt_tri : ∀ a b : List Nat, natsLt a b = false → natsLt b a = false → a = b
  | [], [], _, _ => rfl
  | [], b :: bs, h, _ => by simp [natsLt] at h
  | a :: as, [], _, h => by simp [natsLt] at h
  | a :: as, b :: bs, h, h' => by
    simp only [natsLt, Bool.or_eq_false_iff, decide_eq_false_iff_not] at h h'
    have e : a = b := by omega
    subst e
    simp only [decide_true, Bool.true_and] at h h'
    rw [natsLt_tri as bs h.2 h'.2]
mutual
theorem D.alk_alike : ∀ (d e : D), D.alk d e = true → PySem.W.alike d.py e.py = true
  | .non, e, h => by cases e <;> simp [D.alk] at h; simp [D.py, PySem.W.alike]
  | .int i, e, h => by cases e <;> simp [D.alk] at h; simp [D.py, PySem.W.alike]
  | .str i, e, h => by cases e <;> simp [D.alk] at h; simp [D.py, PySem.W.alike]
  | .bl i, e, h => by simp [D.alk] at h
  | .dct _ i, e, h => by simp [D.alk] at h
  | .dcn i, e, h => by simp [D.alk] at h
  | .stt, e, h => by simp [D.alk] at h
  | .tup xs, e, h => by
    cases e with
    | tup ys => simp only [D.py, PySem.W.alike]; exact D.alkL_alike xs ys (by simpa [D.alk] using h)
    | _ => simp [D.alk] at h
  | .lst xs, e, h => by
    cases e with
    | lst ys => simp only [D.py, PySem.W.alike]; exact D.alkL_alike xs ys (by simpa [D.alk] using h)
    | _ => simp [D.alk] at h
theorem D.alkL_alike : ∀ (d e : List D), D.alkL d e = true → PySem.W.alikeAll (D.pyL d) (D.pyL e) = true
  | [], e, _ => by cases e <;> simp [D.pyL, PySem.W.alikeAll]
  | x :: xs, [], _ => by simp [D.pyL, PySem.W.alikeAll]
  | x :: xs, y :: ys, h => by
    simp only [D.alkL, Bool.and_eq_true] at h
    simp only [D.pyL, PySem.W.alikeAll, D.alk_alike x y h.1, D.alkL_alike xs ys h.2, Bool.and_self]
end
theorem dataLt_all (x y : PyData) (xs ys : List PyData) (h : PySem.W.alike x y = true) : PyProof.Rows.lexLt itemOrd (PySem.W.keyToksAll (x :: xs)) (PySem.W.keyToksAll (y :: ys)) = if PyData.eqv x y then PyProof.Rows.lexLt itemOrd (PySem.W.keyToksAll xs) (PySem.W.keyToksAll ys) else PySem.W.dataLt x y := by
  cases e : PyData.eqv x y with
  | true => rw [if_pos rfl]; exact PySem.W.dataLt_all_yes h e
  | false => rw [if_neg (by simp)]; exact PySem.W.dataLt_all_no h e
mutual
theorem D.lt_data : ∀ (n : Nat) (d e : D), d.pl n = true → e.pl n = true → D.alk d e = true → PySem.W.dataLt d.py e.py = D.lt d e
  | n, .non, e, _, _, h => by
    cases e <;> simp [D.alk] at h
    simp only [D.py, D.lt, PySem.W.dataLt, PySem.W.keyToks]; rfl
  | n, .int i, e, _, _, h => by
    cases e <;> simp [D.alk] at h
    simp only [D.py, D.lt]; exact PySem.W.dataLt_int _ _
  | n, .str i, e, _, _, h => by
    cases e <;> simp [D.alk] at h
    simp only [D.py, D.lt]; rw [PySem.W.dataLt_str, natsLt_eq]
  | n, .bl i, e, _, _, h => by simp [D.alk] at h
  | n, .dct _ i, e, _, _, h => by simp [D.alk] at h
  | n, .dcn i, e, _, _, h => by simp [D.alk] at h
  | n, .stt, e, _, _, h => by simp [D.alk] at h
  | 0, .tup xs, e, h, _, _ => by simp [D.pl] at h
  | 0, .lst xs, e, h, _, _ => by simp [D.pl] at h
  | n + 1, .tup xs, e, h1, h2, h => by
    cases e with
    | tup ys => simp only [D.py, D.lt]; rw [PySem.W.dataLt_tuple]; exact D.ltL_data n xs ys (by simpa [D.pl] using h1) (by simpa [D.pl] using h2) (by simpa [D.alk] using h)
    | _ => simp [D.alk] at h
  | n + 1, .lst xs, e, h1, h2, h => by
    cases e with
    | lst ys => simp only [D.py, D.lt]; rw [PySem.W.dataLt_list]; exact D.ltL_data n xs ys (by simpa [D.pl] using h1) (by simpa [D.pl] using h2) (by simpa [D.alk] using h)
    | _ => simp [D.alk] at h
theorem D.ltL_data : ∀ (n : Nat) (d e : List D), D.plL n d = true → D.plL n e = true → D.alkL d e = true → PyProof.Rows.lexLt itemOrd (PySem.W.keyToksAll (D.pyL d)) (PySem.W.keyToksAll (D.pyL e)) = D.ltL d e
  | n, [], [], _, _, _ => by simp only [D.pyL, D.ltL]; exact lex_irrefl _
  | n, [], y :: ys, _, _, _ => by
    simp only [D.pyL, D.ltL, PySem.W.keyToksAll]
    rw [lex_diff (O := itemOrd) (by simp)]; rfl
  | n, x :: xs, [], _, _, _ => by
    simp only [D.pyL, D.ltL, PySem.W.keyToksAll]
    rw [lex_diff (O := itemOrd) (by simp)]; rfl
  | n, x :: xs, y :: ys, h1, h2, h => by
    simp only [D.plL, Bool.and_eq_true] at h1 h2
    simp only [D.alkL, Bool.and_eq_true] at h
    simp only [D.pyL, D.ltL]
    rw [dataLt_all _ _ _ _ (D.alk_alike x y h.1), D.eqv_beq n x y h1.1 h2.1, D.ltL_data n xs ys h1.2 h2.2 h.2, D.lt_data n x y h1.1 h2.1 h.1]
end
theorem D.beq_self (n : Nat) (d : D) (h : d.pl n = true) : D.beq d d = true := (D.beq_eq n d d h).mpr rfl
theorem D.beq_comm {n : Nat} {d e : D} (h1 : d.pl n = true) (h2 : e.pl n = true) : D.beq d e = D.beq e d := by
  cases h : D.beq d e with
  | true =>
    have := (D.beq_eq n d e h1).mp h
    subst this
    exact h.symm
  | false =>
    cases h' : D.beq e d with
    | false => rfl
    | true =>
      have := (D.beq_eq n e d h2).mp h'
      subst this
      rw [h'] at h; cases h
mutual
theorem D.tri : ∀ (n : Nat) (d e : D), d.pl n = true → e.pl n = true → D.alk d e = true → D.lt d e = false → D.lt e d = false → d = e
  | n, .non, e, _, _, h, _, _ => by cases e <;> simp [D.alk] at h; rfl
  | n, .int i, e, _, _, h, a, b => by
    cases e <;> simp [D.alk] at h
    simp only [D.lt, decide_eq_false_iff_not] at a b
    congr 1; omega
  | n, .str i, e, _, _, h, a, b => by
    cases e <;> simp [D.alk] at h
    simp only [D.lt] at a b
    congr 1
    exact PySem.W.str_of_cps (natsLt_tri _ _ a b)
  | n, .bl i, e, _, _, h, _, _ => by simp [D.alk] at h
  | n, .dct _ i, e, _, _, h, _, _ => by simp [D.alk] at h
  | n, .dcn i, e, _, _, h, _, _ => by simp [D.alk] at h
  | n, .stt, e, _, _, h, _, _ => by simp [D.alk] at h
  | 0, .tup xs, e, h, _, _, _, _ => by simp [D.pl] at h
  | 0, .lst xs, e, h, _, _, _, _ => by simp [D.pl] at h
  | n + 1, .tup xs, e, h1, h2, h, a, b => by
    cases e with
    | tup ys => congr 1; exact D.triL n xs ys (by simpa [D.pl] using h1) (by simpa [D.pl] using h2) (by simpa [D.alk] using h) (by simpa [D.lt] using a) (by simpa [D.lt] using b)
    | _ => simp [D.alk] at h
  | n + 1, .lst xs, e, h1, h2, h, a, b => by
    cases e with
    | lst ys => congr 1; exact D.triL n xs ys (by simpa [D.pl] using h1) (by simpa [D.pl] using h2) (by simpa [D.alk] using h) (by simpa [D.lt] using a) (by simpa [D.lt] using b)
    | _ => simp [D.alk] at h
theorem D.triL : ∀ (n : Nat) (d e : List D), D.plL n d = true → D.plL n e = true → D.alkL d e = true → D.ltL d e = false → D.ltL e d = false → d = e
  | n, [], [], _, _, _, _, _ => rfl
  | n, [], y :: ys, _, _, _, a, _ => by simp [D.ltL] at a
  | n, x :: xs, [], _, _, _, _, b => by simp [D.ltL] at b
  | n, x :: xs, y :: ys, h1, h2, h, a, b => by
    simp only [D.plL, Bool.and_eq_true] at h1 h2
    simp only [D.alkL, Bool.and_eq_true] at h
    simp only [D.ltL] at a b
    rw [D.beq_comm h2.1 h1.1] at b
    cases e : D.beq x y with
    | true =>
      rw [e, if_pos rfl] at a b
      rw [(D.beq_eq n x y h1.1).mp e, D.triL n xs ys h1.2 h2.2 h.2 a b]
    | false =>
      rw [e, if_neg (by simp)] at a b
      have := D.tri n x y h1.1 h2.1 h.1 a b
      subst this
      rw [D.beq_self n x h1.1] at e; cases e
end
/-! ### what can be sorted -/
def D.tupE : D → Bool
  | .tup [] => true
  | _ => false
def srtOk (xs : List D) : Bool := D.plL 60 xs && xs.all (fun x => xs.all fun y => D.alk x y) && xs.all (fun x => !D.tupE x && match x with | .non => false | _ => true)
def insD (x : D) : List D → List D
  | [] => [x]
  | y :: r => if D.lt y x then y :: insD x r else x :: y :: r
def sortD : List D → List D
  | [] => []
  | x :: xs => insD x (sortD xs)
theorem insD_perm (x : D) : ∀ l : List D, (insD x l).Perm (x :: l)
  | [] => List.Perm.refl _
  | y :: r => by
    unfold insD
    split
    · exact ((insD_perm x r).cons y).trans (List.Perm.swap x y r)
    · exact List.Perm.refl _
theorem sortD_perm : ∀ l : List D, (sortD l).Perm l
  | [] => List.Perm.refl _
  | x :: xs => (insD_perm x (sortD xs)).trans ((sortD_perm xs).cons x)
theorem swoD : SrtO.Swo fun x y : D => PySem.W.dataLt x.py y.py := by
  refine ⟨fun x y h => ?_, fun x y z h1 h2 => ?_⟩
  · cases e : PySem.W.dataLt y.py x.py with
    | false => rfl
    | true =>
      have := lex_trans _ _ _ h e
      rw [lex_irrefl] at this; cases this
  · cases e : PySem.W.dataLt z.py x.py with
    | false => rfl
    | true =>
      rcases lex_negTrans _ (PySem.W.keyToks y.py) _ e with h | h
      · have : PySem.W.dataLt z.py y.py = true := h
        rw [h2] at this; cases this
      · have : PySem.W.dataLt y.py x.py = true := h
        rw [h1] at this; cases this
theorem srtOk_pl {xs : List D} (h : srtOk xs = true) : ∀ x ∈ xs, x.pl 60 = true := by
  have h0 : D.plL 60 xs = true := by
    unfold srtOk at h
    simp only [Bool.and_eq_true] at h
    exact h.1.1
  clear h
  induction xs with
  | nil => intro x hx; cases hx
  | cons y ys ih =>
    simp only [D.plL, Bool.and_eq_true] at h0
    intro x hx
    rcases List.mem_cons.mp hx with rfl | hx
    · exact h0.1
    · exact ih h0.2 x hx
theorem srtOk_alk {xs : List D} (h : srtOk xs = true) : ∀ x ∈ xs, ∀ y ∈ xs, D.alk x y = true := by
  unfold srtOk at h
  simp only [Bool.and_eq_true, List.all_eq_true] at h
  exact fun x hx y hy => h.1.2 x hx y hy
theorem srtOk_no {xs : List D} (h : srtOk xs = true) : ∀ x ∈ xs, x ≠ .non ∧ x ≠ .tup [] := by
  unfold srtOk at h
  simp only [Bool.and_eq_true, List.all_eq_true] at h
  intro x hx
  have := h.2 x hx
  constructor
  · rintro rfl; simp at this
  · rintro rfl; simp [D.tupE] at this
theorem srtOk_lt {xs : List D} (h : srtOk xs = true) {x y : D} (hx : x ∈ xs) (hy : y ∈ xs) : PySem.W.dataLt x.py y.py = D.lt x y :=
  D.lt_data 60 x y (srtOk_pl h x hx) (srtOk_pl h y hy) (srtOk_alk h x hx y hy)
/-- sorted by dataLt -/
theorem insD_srtd {x : D} {l : List D} (hl : SrtO.Srtd (fun x y : D => PySem.W.dataLt x.py y.py) l) (he : ∀ y ∈ l, D.lt y x = PySem.W.dataLt y.py x.py) : SrtO.Srtd (fun x y : D => PySem.W.dataLt x.py y.py) (insD x l) := by
  induction l with
  | nil => exact SrtO.srtd_one x
  | cons y r ih =>
    unfold insD
    have e := he y List.mem_cons_self
    split
    · rename_i hlt
      rw [e] at hlt
      refine List.pairwise_cons.mpr ⟨fun z hz => ?_, ih (List.pairwise_cons.mp hl).2 fun z hz => he z (List.mem_cons_of_mem _ hz)⟩
      rcases List.mem_cons.mp ((insD_perm x r).mem_iff.mp hz) with rfl | hz
      · exact swoD.asym _ _ hlt
      · exact SrtO.srtd_head hl z hz
    · rename_i hlt
      rw [e] at hlt
      have hlt : PySem.W.dataLt y.py x.py = false := by simpa using hlt
      exact List.pairwise_cons.mpr ⟨fun z hz => swoD.le_all hl hlt z hz, hl⟩
theorem sortD_srtd {xs : List D} (h : srtOk xs = true) : ∀ l : List D, (∀ x ∈ l, x ∈ xs) → SrtO.Srtd (fun x y : D => PySem.W.dataLt x.py y.py) (sortD l)
  | [], _ => List.Pairwise.nil
  | x :: l, hm => insD_srtd (sortD_srtd h l fun z hz => hm z (List.mem_cons_of_mem _ hz)) fun y hy =>
      (srtOk_lt h (hm y (List.mem_cons_of_mem _ ((sortD_perm l).mem_iff.mp hy))) (hm x List.mem_cons_self)).symm
theorem srtd_unique {xs : List D} (h : srtOk xs = true) : ∀ l m : List D, SrtO.Srtd (fun x y : D => PySem.W.dataLt x.py y.py) l → SrtO.Srtd (fun x y : D => PySem.W.dataLt x.py y.py) m → l.Perm m → (∀ x ∈ l, x ∈ xs) → l = m
  | [], m, _, _, p, _ => by rw [List.nil_perm.mp p]
  | x :: l, m, h1, h2, p, hm => by
    cases m with
    | nil => exact absurd p.length_eq (by simp)
    | cons y m =>
      have hx : x ∈ y :: m := p.mem_iff.mp List.mem_cons_self
      have hy : y ∈ x :: l := p.mem_iff.mpr List.mem_cons_self
      have e : x = y := by
        have hxx := hm x List.mem_cons_self
        have hyy := hm y hy
        refine D.tri 60 x y (srtOk_pl h x hxx) (srtOk_pl h y hyy) (srtOk_alk h x hxx y hyy) ?_ ?_
        · rw [← srtOk_lt h hxx hyy]
          rcases List.mem_cons.mp hx with e | hx
          · rw [e]; exact swoD.refl y
          · exact SrtO.srtd_head h2 x hx
        · rw [← srtOk_lt h hyy hxx]
          rcases List.mem_cons.mp hy with e | hy
          · rw [e]; exact swoD.refl x
          · exact SrtO.srtd_head h1 y hy
      subst e
      rw [srtd_unique h l m (List.pairwise_cons.mp h1).2 (List.pairwise_cons.mp h2).2 (List.Perm.cons_inv p) fun z hz => hm z (List.mem_cons_of_mem _ hz)]

/-! ### sorted, of lists -/
def dSorted : List D → M D
  | [.lst xs] => if srtOk xs then .ret (.lst (sortD xs)) else .fail
  | _ => .fail
theorem D.pyL_map : ∀ ds : List D, D.pyL ds = ds.map D.py
  | [] => rfl
  | d :: ds => by rw [D.pyL, D.pyL_map ds, List.map_cons]
def rSortedD (K : PySem.W.Frag) : List V → Hp → VK → Prop := fun vs H Q => ∃ (a : Addr) (ys : List V) (ds : List D), vs = [V.ref a] ∧ SqL K H a ys ∧ DpAll K H ys (D.pyL ds) ∧ srtOk ds = true ∧
  ∀ (ps : List (V × D)) (p : Addr), ps.Perm (ys.zip ds) → ps.map (·.2) = sortD ds → H p = none → Q (.ref p) (upd H p (.lst (ps.map (·.1))))
theorem srt_alike {ds : List D} (h : srtOk ds = true) : PySem.W.AllAlike (ds.map D.py) := by
  intro d hd d' hd'
  obtain ⟨x, hx, rfl⟩ := List.mem_map.mp hd
  obtain ⟨y, hy, rfl⟩ := List.mem_map.mp hd'
  exact D.alk_alike x y (srtOk_alk h x hx y hy)
theorem srt_sortable {ds : List D} (h : srtOk ds = true) : PySem.W.Sortable (ds.map D.py) := by
  cases ds with
  | nil => exact .inl fun d hd => absurd hd (by simp)
  | cons d0 ds0 =>
    by_cases ht : ∃ xs, d0 = .tup xs
    · obtain ⟨xs, rfl⟩ := ht
      refine .inl fun d hd => ?_
      obtain ⟨y, hy, rfl⟩ := List.mem_map.mp hd
      have a := srtOk_alk h _ List.mem_cons_self y hy
      have b := (srtOk_no h y hy).2
      cases y <;> simp [D.alk] at a
      rename_i zs
      cases zs with
      | nil => exact absurd rfl b
      | cons z zs => exact ⟨z.py, D.pyL zs, by simp [D.py, D.pyL]⟩
    · refine .inr fun d hd => ?_
      obtain ⟨y, hy, rfl⟩ := List.mem_map.mp hd
      have a := srtOk_alk h _ List.mem_cons_self y hy
      have b := (srtOk_no h y hy).1
      cases y <;> cases d0 <;> simp [D.alk] at a b ht <;> simp [D.py]
theorem each_zip {K : PySem.W.Frag} : ∀ {ys : List V} {us : List Value} {ds : List D}, Vals ys us → ys.length = ds.length → PySem.W.EachIs (fun (u : Value) (p : V × D) => RelV p.1 u) us (ys.zip ds)
  | _, _, [], .nil, _ => .nil
  | _, _, [], .cons _ _, h => by simp at h
  | _, _, d :: ds, .nil, h => by simp at h
  | _, _, d :: ds, .cons r t, h => by
    rw [List.zip_cons_cons]
    exact .cons r (each_zip (K := K) t (by simpa using h))
theorem each_reads {h : Heap} : ∀ {ys : List V} {us : List Value} {ds : List D} {as : List Addr}, ReadsAll h us (D.pyL ds) as → ys.length = ds.length → PySem.W.EachIs (fun (u : Value) (p : V × D) => ∃ as, Reads h u p.2.py as) us (ys.zip ds)
  | [], _, [], _, r, _ => by
    have r' : ReadsAll h _ [] _ := r
    cases r'; exact .nil
  | _ :: _, _, [], _, _, h => by simp at h
  | [], _, d :: ds, _, _, h => by simp at h
  | y :: ys, _, d :: ds, _, r, hl => by
    have r' : ReadsAll h _ (d.py :: D.pyL ds) _ := r
    cases r' with
    | cons h1 h2 =>
      rw [List.zip_cons_cons]
      exact .cons ⟨_, h1⟩ (each_reads h2 (by simpa using hl))
theorem each_vals : ∀ {us : List Value} {ps : List (V × D)}, PySem.W.EachIs (fun (u : Value) (p : V × D) => RelV p.1 u) us ps → Vals (ps.map (·.1)) us
  | _, _, .nil => .nil
  | _, _, .cons h t => .cons h (each_vals t)
theorem dpAll_len {K : PySem.W.Frag} {H : Hp} : ∀ {ys : List V} {ds : List PyData}, DpAll K H ys ds → ys.length = ds.length
  | _, _, .nil => rfl
  | _, _, .cons _ t => congrArg (· + 1) (dpAll_len t)
theorem zip_snd {α β : Type} : ∀ (as : List α) (bs : List β), as.length = bs.length → (as.zip bs).map (·.2) = bs
  | [], [], _ => rfl
  | [], _ :: _, h => by simp at h
  | _ :: _, [], h => by simp at h
  | a :: as, b :: bs, h => by rw [List.zip_cons_cons, List.map_cons, zip_snd as bs (by simpa using h)]
theorem zip_fst {α β : Type} : ∀ (as : List α) (bs : List β), as.length = bs.length → (as.zip bs).map (·.1) = as
  | [], [], _ => rfl
  | [], _ :: _, h => by simp at h
  | _ :: _, [], h => by simp at h
  | a :: as, b :: bs, h => by rw [List.zip_cons_cons, List.map_cons, zip_fst as bs (by simpa using h)]
theorem srtd_merge (ds : List D) (bs : List (V × D)) (hb : bs.map (·.2) = ds) (h : srtOk ds = true) : (bs.mergeSort (PySem.W.dataLe false fun p : V × D => p.2.py)).map (·.2) = sortD ds := by
  have e : PySem.W.dataLe false (fun p : V × D => p.2.py) = fun a b => !PySem.W.dataLt b.2.py a.2.py := by
    rw [PySem.W.dataLe_eq] <;> rfl
  have p := List.mergeSort_perm bs (PySem.W.dataLe false fun p : V × D => p.2.py)
  have p2 := (p.map (·.2))
  rw [hb] at p2
  refine srtd_unique h _ _ ?_ (sortD_srtd h ds fun x hx => hx) (p2.trans (sortD_perm ds).symm) fun x hx => p2.mem_iff.mp hx
  have hp : (bs.mergeSort (PySem.W.dataLe false fun p : V × D => p.2.py)).Pairwise (fun a b => PySem.W.dataLe false (fun p : V × D => p.2.py) a b = true) := by
    refine List.pairwise_mergeSort (fun a b c h1 h2 => ?_) (fun a b => ?_) bs
    · rw [e] at h1 h2 ⊢
      simp only [Bool.not_eq_true'] at h1 h2 ⊢
      exact swoD.tr _ _ _ h1 h2
    · rw [e]
      show (!PySem.W.dataLt b.2.py a.2.py || !PySem.W.dataLt a.2.py b.2.py) = true
      cases q : PySem.W.dataLt b.2.py a.2.py with
      | false => rfl
      | true => rw [swoD.asym b.2 a.2 q]; rfl
  refine List.pairwise_map.mpr (hp.imp fun {a b} h => ?_)
  rw [e] at h
  simpa using h
theorem cr_sortedD {X : Cx} (hu : X.A.units + 64 < cLine) : CallR X (.builtin "sorted") (rSortedD X.K) := by
  intro pins s σ H vs us Q I r h
  obtain ⟨a, ys, ds, rfl, hs, hd, ho, q⟩ := h
  obtain ⟨its, rv, hl, hz⟩ := I.list hs
  rw [Vals.ref1 r]
  have hlen : ys.length = ds.length := by rw [dpAll_len hd, D.pyL_map, List.length_map]
  have hb := zip_snd ys ds hlen
  obtain ⟨as, hr⟩ := Dp.readsAll I (D.pyL ds) ys its hd rv
  have hm : (ys.zip ds).map (fun p : V × D => p.2.py) = ds.map D.py := by
    conv => rhs; rw [← hb]
    rw [List.map_map] <;> rfl
  refine PySem.W.sorted_data (enc := fun p : V × D => p.2.py) hl.isList (each_zip (K := X.K) rv hlen) (each_reads hr hlen) (by rw [hm]; exact srt_alike ho) (by rw [hm]; exact srt_sortable ho)
    (by rw [List.length_zip, rv.length]; omega) (fun b hb' => ?_) fun out e1 e2 => ?_
  · have : b.2 ∈ ds := by rw [← hb]; exact List.mem_map.mpr ⟨b, hb', rfl⟩
    have := D.dep 60 b.2 (srtOk_pl ho _ this)
    omega
  · have hp := List.mergeSort_perm (ys.zip ds) (PySem.W.dataLe false fun p : V × D => p.2.py)
    obtain ⟨ep, he'⟩ := PyProof.Rows.sortedAll_at s.heap its out.toArray
    have hl2 : (((ys.zip ds).mergeSort (PySem.W.dataLe false fun p : V × D => p.2.py)).map (·.1)).length ≤ sizeLine := by
      rw [List.length_map, hp.length_eq, List.length_zip, rv.length]; omega
    exact ⟨.ref _, upd H (s.heap.objs.size + 1) (.lst (((ys.zip ds).mergeSort (PySem.W.dataLe false fun p : V × D => p.2.py)).map (·.1))), I.laid (t' := s.toks) (fun _ _ => PyProof.Rows.sortedAll_old) (Nat.le_succ _) ⟨hl2, out, ep, each_vals e2, he'⟩, rfl,
      q _ _ hp (srtd_merge ds _ hb ho) (I.hok.fresh (Nat.le_succ _))⟩
/-- rows in another order -/
theorem RpL.zip_mem {S : SA} {F : Hp} : ∀ {ds : List D} {vs : List V}, RpL S F ds vs → ∀ p ∈ vs.zip ds, Rp S F p.2 p.1
  | _, _, .nil, p, h => by simp at h
  | _, _, .cons r t, p, h => by
    rw [List.zip_cons_cons] at h
    rcases List.mem_cons.mp h with rfl | h
    · exact r
    · exact RpL.zip_mem t p h
theorem RpL.of_mem {S : SA} {F : Hp} : ∀ {ps : List (V × D)}, (∀ p ∈ ps, Rp S F p.2 p.1) → RpL S F (ps.map (·.2)) (ps.map (·.1))
  | [], _ => .nil
  | p :: ps, h => .cons (h p List.mem_cons_self) (RpL.of_mem fun q hq => h q (List.mem_cons_of_mem _ hq))
section
variable {S : SA} {X : Cx}
theorem c_sorted (hu : X.A.units + 64 < cLine) : CallF S X (.builtin "sorted") dSorted := ⟨_, cr_sortedD hu, fun G F σ H env vs ds Q g r q => by
  unfold dSorted at q
  split at q
  · rename_i xs
    split at q
    · rename_i ho
      obtain ⟨v, rfl, r1⟩ := rdb1 r
      obtain ⟨p, ys, rfl, h1, l1, z1⟩ := r1.lst g
      have hd : DpAll X.K H ys (D.pyL xs) := by
        have hpl : D.plL 60 xs = true := by
          unfold srtOk at ho; simp only [Bool.and_eq_true] at ho; exact ho.1.1
        exact (RpL.dp (K := X.K) g.fh 60 xs hpl l1).1
      refine ⟨p, ys, xs, rfl, .of h1, hd, ho, fun ps a hp he hn => ?_⟩
      have hr : RpL S F (sortD xs) (ps.map (·.1)) := by
        rw [← he]
        exact RpL.of_mem fun z hz => l1.zip_mem z (hp.mem_iff.mp hz)
      exact PostF.lst (show PostF S G F σ env Q (.lst (sortD xs)) from q) g hn hr (by rw [List.length_map, hp.length_eq, List.length_zip, l1.len]; omega)
    · exact q.elim
  · exact q.elim⟩
end
end DL

set_option Elab.async false
set_option linter.all false
set_option maxRecDepth 100000
/-! DL12: dict displays: {**d, k: v}. -/
namespace DL
open PySem PySem.Spec L2
open PyProof.Rows hiding St

section
variable {prog : Program} {w : World} {A : Around} {E : Value → Shared → Prop} {s : Shared}
theorem wp_dictPut {K : Type} [DecidableEq K] {knd : KeyKind prog w K} {d : Addr} {kvs : List (K × Value)} {k : K} {key v : Value} {Q : Unit → Shared → Prop} (hkey : knd.is k key = true) (hm : s.heap.DictOf knd d kvs)
    (hQ : ∀ h', h'.DictOf knd d (stored kvs k v) → Heap.SameBut d s.heap h' → Q () { s with heap := h' }) (hsz : kvs.length ≤ sizeLine) :
    wpAny (model prog w) A (dictPut d (knd.hash k) key v) Q E s := by
  obtain ⟨o, es, ep, ho, hc, hd, hk, hp, hn⟩ := hm
  have hes : es.size ≤ sizeLine := by have e1 := hp.length; have e2 : es.toList.length = es.size := by simp
                                      omega
  unfold dictPut
  refine wpAny_bind (wpAny_dictFind_of hkey ho hd hk ?_)
  have hidx : (es.findIdx? fun e => knd.is k e.key) = kvs.findIdx? fun kv => decide (kv.1 = k) := by
    rw [← hp.findIdx k]; obtain ⟨l⟩ := es; simp
  cases hi : es.findIdx? fun e => knd.is k e.key with
  | some i =>
    refine wpAny_updateDict ho hd (hQ _ ⟨_, _, ep, Heap.get?_update_self _ ho (Obj.isFreed_of_dict (Obj.data_mapDict hd _)),
      hc.mapDict _, Obj.data_mapDict hd _, hk.modify _ _, ?_, ?_⟩ (Heap.SameBut.update ..))
    · rw [stored, if_pos (any_of_findIdx_some (hidx ▸ hi))]
      have hl : (es.toList.findIdx? fun e => knd.is k e.key) = some i := by rw [← hi]; obtain ⟨l⟩ := es; simp
      have := hp.modify hn hl v
      obtain ⟨l⟩ := es
      simpa using this
    · rw [stored, if_pos (any_of_findIdx_some (hidx ▸ hi)), keys_map_store]; exact hn
  | none =>
    have hnot : k ∉ kvs.map (·.1) := not_mem_of_findIdx_none (hidx ▸ hi)
    have hany : ¬ (kvs.any fun kv => decide (kv.1 = k)) = true := by
      rw [List.any_eq_true]; rintro ⟨kv, hkv, he⟩
      exact hnot (List.mem_map.mpr ⟨kv, hkv, of_decide_eq_true he⟩)
    refine wpAny_updateDictKeys (hz := hes) ho hd (hQ _ ⟨_, _, ep + 1, Heap.get?_update_self _ ho (Obj.isFreed_of_dict (Obj.data_mapDictKeys hd _)),
      hc.mapDictKeys _, Obj.data_mapDictKeys hd _, hk.push hkey _, ?_, ?_⟩ (Heap.SameBut.update ..))
    · rw [stored, if_neg hany]
      have := hp.append hkey (knd.hash k) v
      obtain ⟨l⟩ := es
      simpa using this
    · rw [stored, if_neg hany, List.map_append, List.nodup_append]
      refine ⟨hn, by simp, ?_⟩
      intro a ha b hb
      simp only [List.map_cons, List.map_nil, List.mem_singleton] at hb
      subst hb
      exact fun e => hnot (e ▸ ha)

theorem key_noRef {k : Key} {v : Value} (h : keyIs k v = true) : ∀ a, v ≠ .ref a := by
  rcases keyIs_shape h with ⟨i, t, rfl, rfl⟩ | ⟨x, t, rfl, rfl⟩ <;> intro a z <;> cases z
theorem wp_noRefs {β : Type} {f : DictEntry → Sem (ForInStep PUnit)} : ∀ (es : List DictEntry) {Q : PUnit → Shared → Prop}, (∀ e ∈ es, ∀ (Q' : ForInStep PUnit → Shared → Prop), Q' (.yield ⟨⟩) s → wpAny (model prog w) A (f e) Q' E s) → Q ⟨⟩ s →
    wpAny (model prog w) A (forIn es PUnit.unit fun e (_ : PUnit) => f e) Q E s
  | [], _, _, h => by rw [List.forIn_nil]; exact wpAny_pure h
  | e :: es, Q, hf, h => by
    rw [List.forIn_cons]
    refine wpAny_bind (hf e List.mem_cons_self _ ?_)
    exact wp_noRefs (β := β) es (fun e' he' => hf e' (List.mem_cons_of_mem _ he')) h

theorem wp_mergeMapping {d o : Addr} {kvs more : List (Key × Value)} {Q : Unit → Shared → Prop} (hdo : d ≠ o) (hoS : (o == sysModules) = false)
    (hd : s.heap.DictOf (mixKind prog w) d kvs) (ho : s.heap.DictOf (mixKind prog w) o more)
    (hQ : ∀ h', h'.DictOf (mixKind prog w) d (merged kvs more) → Heap.SameBut d s.heap h' → Q () { s with heap := h' })
    (hsz : kvs.length + more.length ≤ sizeLine) : wpAny (model prog w) A (mergeMapping d (.ref o) false) Q E s := by
  obtain ⟨od, esd, epd, hod, hcd, hdd, hkd, hpd, hnd⟩ := id hd
  obtain ⟨oo, eso, epo, hoo, hco, hdo', hko, hpo, hno⟩ := id ho
  have hlen : more.length = eso.size := by rw [← hpo.length]; simp
  unfold mergeMapping
  refine wpAny_bind (wpAny_isInstance ho.typeIs isSubtype_dict_dict ?_)
  simp only [if_true]
  refine wpAny_bind (wpAny_specialOf ho.typeIs F.slot_dict_iter.lookup ?_)
  refine wpAny_bind (wpAny_pure ?_)
  simp only [beq_self_eq_true]
  rw [if_neg (by rw [hoS]; exact Bool.false_ne_true)]
  refine wpAny_bind (wpAny_dictEntries hod hdd ?_)
  have loop : wpAny (model prog w) A (do
      let __x ← dictEntries o
      let epoch ← dictEpoch o
      forIn (List.range __x.size) PUnit.unit fun i (_ : PUnit) => (do
          let l' ← dictEntries o
          match l'[i]? with
            | some e => do
              holding [e.key, e.val] (dictPut d e.hash e.key e.val)
              let ep' ← dictEpoch o
              if (ep' != epoch) = true then do
                  (unsupported "dict.changed-during-merge" : Sem PUnit)
                  pure (ForInStep.yield PUnit.unit)
                else pure (ForInStep.yield PUnit.unit)
            | _ => do
              (unsupported "dict.changed-during-merge" : Sem PUnit)
              pure (ForInStep.yield PUnit.unit) : Sem (ForInStep PUnit))
      pure ()) Q E s := by
    refine wpAny_bind (wpAny_dictEntries hoo hdo' ?_)
    refine wpAny_bind (wpAny_dictEpoch hoo hdo' ?_)
    refine wpAny_bind ?_
    rw [List.range_eq_range']
    refine wpAny_forIn_list _
      (fun rest _ s' => ∃ h' i, s' = { s with heap := h' } ∧ rest = List.range' i (eso.size - i) ∧ i ≤ eso.size ∧ h'.DictOf (mixKind prog w) d (merged kvs (more.take i)) ∧ h'.get? o = some oo ∧ Heap.SameBut d s.heap h')
      _ ?_ ?_ _ _ ⟨s.heap, 0, rfl, by simp, Nat.zero_le _, by simpa [merged] using hd, hoo, Heap.SameBut.refl _ _⟩
    · rintro x rest b s' ⟨h', i, rfl, hr, hi, hd', hoo', hs'⟩
      have hlt : i < eso.size := by
        rcases Nat.lt_or_ge i eso.size with h | h
        · exact h
        · rw [Nat.sub_eq_zero_of_le h] at hr; simp at hr
      obtain ⟨rfl, hrest⟩ : x = i ∧ rest = List.range' (i + 1) (eso.size - (i + 1)) := by
        have e : eso.size - i = (eso.size - (i + 1)) + 1 := by omega
        rw [e, List.range'_succ] at hr
        injection hr with h1 h2
        exact ⟨h1, h2⟩
      refine wpAny_bind (wpAny_dictEntries hoo' hdo' ?_)
      rw [Array.getElem?_eq_getElem hlt]
      obtain ⟨kv, hkv⟩ : ∃ kv, more[x]? = some kv := ⟨more[x]'(by rw [hlen]; exact hlt), List.getElem?_eq_getElem _⟩
      obtain ⟨k, v⟩ := kv
      obtain ⟨hkey, hval⟩ := hpo.get? (e := eso[x]) (by simp [hlt]) hkv
      obtain ⟨k', hkey', hhash⟩ := hko eso[x] (Array.getElem_mem hlt)
      obtain rfl : k' = k := (mixKind prog w).inj _ _ _ hkey' hkey
      show wpAny _ _ (holding [eso[x].key, eso[x].val] (dictPut d eso[x].hash eso[x].key eso[x].val) >>= _) _ _ _
      rw [hhash, hval]
      have hmx : (merged kvs (more.take x)).length ≤ sizeLine := by
        have e1 := merged_length_le kvs (more.take x)
        have e2 : (more.take x).length ≤ more.length := by rw [List.length_take]; omega
        omega
      refine wpAny_bind (wpAny_holding (wp_dictPut (hsz := hmx) hkey hd' fun h'' hd'' hs'' => ?_))
      have hoo'' : h''.get? o = some oo := (hs''.2 o (Ne.symm hdo)).trans hoo'
      refine wpAny_bind (wpAny_dictEpoch hoo'' hdo' ?_)
      rw [if_neg (by simp)]
      exact wpAny_pure ⟨h'', x + 1, rfl, hrest, hlt, by rw [merged_take_succ kvs more x (k', v) hkv]; exact hd'', hoo'', hs'.trans hs''⟩
    · rintro b s' ⟨h', i, rfl, hr, hi, hd', hoo', hs'⟩
      have hin : i = eso.size := by
        rcases Nat.lt_or_ge i eso.size with h | h
        · have e : eso.size - i = (eso.size - (i + 1)) + 1 := by omega
          rw [e, List.range'_succ] at hr; exact nomatch hr
        · exact Nat.le_antisymm hi h
      refine wpAny_pure (hQ h' ?_ hs')
      rw [hin, ← hlen, List.take_length] at hd'; exact hd'
  split
  · refine wpAny_bind (wpAny_dictEntries hoo hdo' ?_)
    refine wpAny_bind ?_
    rw [← Array.forIn_toList]
    refine wp_noRefs (β := Unit) _ (fun e he Q' hq => ?_) ?_
    · obtain ⟨k', hk', _⟩ := hko e (by simpa using he)
      have := key_noRef hk'
      split
      · rename_i a ha
        exact absurd ha (this a)
      · exact wpAny_pure hq
    · exact loop
  · exact loop
end

section
variable {prog : Program} {w : World} {A : Around} {E : Value → Shared → Prop} {s : Shared}
theorem wp_star {dm : Sem Value} {prs : Sem Value × Sem Value} {Q : Value → Shared → Prop}
    (h : wpAny (model prog w) A dm (fun m s1 => ∃ o more, m = .ref o ∧ s.heap.objs.size ≠ o ∧ (o == sysModules) = false ∧ s1.heap.DictOf (mixKind prog w) s.heap.objs.size [] ∧ s1.heap.DictOf (mixKind prog w) o more ∧ more.length ≤ sizeLine ∧
      ∀ h', h'.DictOf (mixKind prog w) s.heap.objs.size more → Heap.SameBut s.heap.objs.size s1.heap h' →
        wpAny (model prog w) A (subDict [prs]) (fun d s2 => ∃ kv kvs, s2.heap.DictOf (mixKind prog w) d [kv] ∧ s2.heap.DictOf (mixKind prog w) s.heap.objs.size kvs ∧ s.heap.objs.size ≠ d ∧ (d == sysModules) = false ∧ kvs.length + 1 ≤ sizeLine ∧
          ∀ h'', h''.DictOf (mixKind prog w) s.heap.objs.size (stored kvs kv.1 kv.2) → Heap.SameBut s.heap.objs.size s2.heap h'' → Q (.ref s.heap.objs.size) { s2 with heap := h'' }) E { s1 with heap := h' }) E
      { s with heap := s.heap.push { cls := .type "dict", data := .dict #[] } }) :
    wpAny (model prog w) A (dictDisplay [(none, dm), (some prs.1, prs.2)]) Q E s := by
  unfold dictDisplay
  simp only [List.forIn_cons, List.forIn_nil, List.isEmpty_nil, if_true, List.nil_append, List.length_singleton]
  refine wpAny_bind (wpAny_bind (wpAny_bind (wpAny_pure ?_)))
  dsimp only
  refine wpAny_bind (wpAny_alloc ?_)
  refine wpAny_bind (wpAny_holding (wpAny_mono h (fun m s1 h1 => ?_) fun _ _ e => e))
  obtain ⟨o, more, rfl, hne, hoS, hd, ho, hz, h2⟩ := h1
  refine wpAny_bind (wpAny_onRaise (wpAny_tryCatch (wpAny_onRaise (wpAny_holding (wp_mergeMapping hne hoS hd ho (fun h' hd' hs' => ?_) (by simpa using hz))))))
  have hn : (more.map (·.1)).Nodup := let ⟨_, _, _, _, _, _, _, _, hn⟩ := ho; hn
  rw [merged_nil_of_nodup more hn] at hd'
  refine wpAny_pure ?_
  dsimp only
  refine wpAny_bind ?_
  rw [if_neg (by simp)]
  refine wpAny_pure ?_
  dsimp only
  refine wpAny_pure ?_
  refine wpAny_bind ?_
  rw [if_neg (by simp)]
  dsimp only
  refine wpAny_bind (wpAny_holding (wpAny_mono (h2 h' hd' hs') (fun d s2 h3 => ?_) fun _ _ e => e))
  obtain ⟨kv, kvs, hd2, hm2, hne2, hdS, hz2, h4⟩ := h3
  refine wpAny_bind (wpAny_onRaise (wpAny_holding (wp_mergeMapping hne2 hdS hm2 hd2 (fun h'' hd'' hs'' => ?_) (by simpa using hz2))))
  refine wpAny_pure ?_
  dsimp only
  exact wpAny_pure (h4 h'' hd'' hs'')
end

/-- {**d, k: v} -/
def tStar (td tk tv : TE) : TE := fun σ H Q => ∀ p, H p = none → td σ (upd H p (.dK [])) fun x H1 => ∃ a kvs, x = .ref a ∧ p ≠ a ∧ H1 p = some (.dK []) ∧ Rd H1 a (.dK kvs) ∧
  ∀ q, upd H1 p (.dK kvs) q = none → tk σ (upd (upd H1 p (.dK kvs)) q (.dK [])) fun y H2 => tv σ H2 fun z H3 => H3 q = some (.dK []) ∧ H3 p = some (.dK kvs) ∧ kvs.length < sizeLine ∧ ∃ k, y = kV k ∧ Q (.ref p) (upd (upd H3 q (.dK [(k, z)])) p (.dK (putK kvs k z)))
section
variable {X : Cx} {pos : Pos} {d k v : Expr} {td tk tv : TE}
theorem pe_star (hd : PE X d td) (hk : PE X k tk) (hv : PE X v tv) : PE X (.Dict [none, some k] [d, v] pos) (tStar td tk tv) := by
  refine ⟨fun pins s σ H Q I q => ?_⟩
  have hp := I.hok.fresh (Nat.le_refl s.heap.objs.size)
  have I0 := I.laid (a := s.heap.objs.size) (o := .dK []) (h' := s.heap.push { cls := .type "dict", data := .dict #[] }) (t' := s.toks) (fun _ _ q => Heap.get?_push_of_some _ q) (Nat.le_refl _) (dk_empty s.heap I.big)
  rw [arm_eval_Dict]
  refine wpAny_bind (wpAny_standAt ?_)
  show wpAny (model X.prog X.w) X.A (dictDisplay [(none, do let x ← eval d X.env; standAt pos; pure x), (some (eval k X.env), do let x ← eval v X.env; standAt pos; pure x)]) _ _ _
  refine wp_star (prs := (eval k X.env, do let x ← eval v X.env; standAt pos; pure x)) ?_
  refine wpAny_bind (thn (hd.run pins _ σ _ _ I0 (q _ hp)) fun u s1 ⟨x, H1, I1, rx, a, kvs, ex, hne, e1, e2, q1⟩ => wpAny_bind (wpAny_standAt (wpAny_pure ?_)))
  subst ex
  obtain rfl : u = Value.ref a := rx
  obtain ⟨z0, hp0, vs0, r0, dp⟩ := dk_of I1.hok e1
  cases r0
  obtain ⟨z, hdS, vs, rel, dd⟩ := dk_rd I1.hok e2
  refine ⟨a, vs, rfl, hne, hdS, dp, dd, by rw [← rel.length]; exact z, fun h' dd' hs => ?_⟩
  have he : ∃ q, h'.get? s.heap.objs.size = some q := let ⟨q, _, _, hq, _⟩ := dd'; ⟨q, hq⟩
  have I2 := d_write (t' := s1.toks) I1 (by rw [e1]; exact True.intro) hs he (dk_new z hp0 rel dd')
  have hq := I2.hok.fresh (Nat.le_refl h'.objs.size)
  have I3 := I2.laid (a := h'.objs.size) (o := .dK []) (h' := h'.push { cls := .type "dict", data := .dict #[] }) (t' := s1.toks) (fun _ _ q => Heap.get?_push_of_some _ q) (Nat.le_refl _) (dk_empty h' I2.big)
  refine wpAny_subDict (knd := mixKind X.prog X.w) (s := { s1 with heap := h' }) (by simp) ?_
  refine pairTrees_cons_walk (ks := []) (vs := []) (thn (hk.run pins _ σ _ _ I3 (q1 _ hq)) fun u2 s2 ⟨y, H2, I4, ry, q2⟩ => thn (hv.run pins s2 σ H2 _ I4 q2) fun u3 s3 ⟨zz, H3, I5, rz, e3, e4, hlt, kk, ey, q3⟩ => pairTrees_nil_walk ?_)
  subst ey
  obtain ⟨z5, hq5, vs5, r5, dq⟩ := dk_of I5.hok e3
  cases r5
  refine ⟨[(kk, u3)], ⟨kV_is ry, rfl, trivial⟩, dq, fun h5 dd5 hs5 => ?_⟩
  have he5 : ∃ q, h5.get? h'.objs.size = some q := let ⟨q, _, _, hq, _⟩ := dd5; ⟨q, hq⟩
  have rel5 : KV [(kk, zz)] (merged [] [(kk, u3)]) := .cons ⟨rfl, rz⟩ .nil
  have I6 := d_write (t' := s3.toks + 1) I5 (by rw [e3]; exact True.intro) hs5 he5 (dk_new (by rw [sizeLine_eq, List.length_singleton]; decide) hq5 rel5 dd5)
  have hpq : s.heap.objs.size ≠ h'.objs.size := fun z => by
    rw [← z, upd_same] at hq; cases hq
  have e4' : upd H3 h'.objs.size (.dK [(kk, zz)]) s.heap.objs.size = some (.dK kvs) := by rw [upd_ne hpq]; exact e4
  obtain ⟨z6, hp6, vs6, r6, dp6⟩ := dk_of I6.hok e4'
  refine ⟨(kk, u3), vs6, dd5, dp6, hpq, hq5, by rw [← r6.length]; exact hlt, fun h7 dd7 hs7 => ?_⟩
  have he7 : ∃ q, h7.get? s.heap.objs.size = some q := let ⟨q, _, _, hq, _⟩ := dd7; ⟨q, hq⟩
  have hl7 : (putK kvs kk zz).length ≤ sizeLine := by have := length_putK kvs kk zz; omega
  exact ⟨.ref _, _, d_write (t' := s3.toks + 1) I6 (by rw [e4']; exact True.intro) hs7 he7 (dk_new hl7 hp6 (r6.put kk rz) dd7), rfl, q3⟩
end

section
variable {S : SA} {X : Cx} {G F G' F' H H' : Hp} {σ : L2.St} {env : DEnv} {d : D} {v : V} {p q : Addr} {Q : VK}
/-- a new object is kept, as it is, for a while -/
theorem Good.hold (g : Good S G F σ H env) (hp : H p = none) (o : HO) : Good S (upd G p o) F σ (upd H p o) env ∧ Ext G F (upd G p o) F := by
  have n := g.no hp
  have nf := g.fg.no n
  obtain ⟨n1, n2⟩ := g.stNe hp
  refine ⟨⟨fun a u e => ?_, g.fg.trans (sub_upd n), ⟨g.st.1, ?_⟩, by rw [upd_ne n1.symm]; exact g.ns, by rw [upd_ne n2.symm]; exact g.nc, g.len, fun i sl e => ?_, g.dist⟩, ⟨sub_upd n, Sub.refl _, fun a h _ => h⟩⟩
  · by_cases z : a = p
    · subst z; rw [upd_same] at e ⊢; exact e
    · rw [upd_ne z] at e ⊢; exact g.kp a u e
  · obtain ⟨_, m, cs, h1, h2, h3⟩ := g.st
    exact ⟨m, cs, by rw [upd_ne n1.symm]; exact h1, by rw [upd_ne n2.symm]; exact h2, h3⟩
  · have r := g.slot i sl e
    cases sl with
    | val d => exact r
    | bor d => obtain ⟨u, q1, q2⟩ := r; exact ⟨u, q1, q2.mono (sub_upd n) (Sub.refl _)⟩
    | own d =>
      obtain ⟨a, h1, h2, h3, h4, h5⟩ := r
      have na : a ≠ p := fun z => g.ownNe hp i d e (by rw [h1, z])
      exact ⟨a, h1, by rw [upd_ne na]; exact h2, h3, h4, ownR_mono (Sub.refl _) (fun o z => by rw [upd_ne na]; exact z) h5⟩
/-- p is nobody's -/
structure Free (S : SA) (σ : L2.St) (env : DEnv) (p : Addr) : Prop where
  n1 : p ≠ S.sa
  n2 : p ≠ S.ca
  own : ∀ (i : Nat) (di : D), env[i]? = some (some (.own di)) → σ[i]? ≠ some (some (.ref p))
  bor : NoBor σ env p
theorem Good.free (g : Good S G F σ H env) (hp : H p = none) : Free S σ env p := ⟨(g.stNe hp).1, (g.stNe hp).2, g.ownNe hp, g.borNe hp⟩
theorem Ext.drop {o : HO} (n : G p = none) (e : Ext (upd G p o) F G' F') : Ext G F (delH G' p) F' := by
  refine ⟨fun a u h => ?_, e.f, fun a h h' => ?_⟩
  · have na : a ≠ p := fun z => by rw [z, n] at h; cases h
    unfold delH; rw [if_neg na]
    exact e.g a u (by rw [upd_ne na]; exact h)
  · have na : a ≠ p := fun z => h' (by rw [z]; exact n)
    exact e.n a h (by rw [upd_ne na]; exact h')
theorem Ext.at_ {o : HO} (e : Ext (upd G p o) F G' F') : G' p = some o := e.g p o upd_same
theorem Ext.atF {o : HO} (nf : F p = none) (e : Ext (upd G p o) F G' F') : F' p = none := e.n p nf (by rw [upd_same]; simp)
theorem Free.ne {t : Bool} {kvs : List (D × D)} {a : Addr} (f : Free S σ env p) (nf : F p = none) (r : RdB S F σ env (.dct t kvs) (.ref a)) : p ≠ a := by
  rintro rfl
  rcases r with r | ⟨i, hs, h⟩
  · cases r with
    | dctK h _ _ => rw [nf] at h; cases h
    | dctT h _ _ => rw [nf] at h; cases h
  · rcases hs with e | e
    · exact f.own i _ e h
    · exact f.bor i _ e h
/-- it is turned, and nobody's still -/
theorem Good.drop {o o' : HO} (g : Good S G F σ H env) (f : Free S σ env p) (hp : G p = some o) (hf : F p = none) : Good S (delH G p) F σ (upd H p o') env := g.chg hp hf f.bor
theorem delH_at (G : Hp) (p : Addr) : delH G p p = none := by unfold delH; rw [if_pos rfl]
theorem Good.put {o' : HO} (g : Good S G F σ H env) (f : Free S σ env p) (hp : G p = none) : Good S G F σ (upd H p o') env := g.swap hp f.n1 f.n2 f.own
theorem Free.fresh {o' : HO} (f : Free S σ env p) (hp : G p = none) (r : OwnR S F (upd H p o') p d) : FreshR S G F σ (upd H p o') env p d := ⟨hp, f.n1, f.n2, f.own, r⟩
def mStar (md mk mv : DE) : DE := fun env => md env >>= fun d => match d with
  | .dct false kvs => if kvs.length < sizeLine then mk env >>= fun k => if k.isKey then mv env >>= fun v => .ret (.dct false (putD kvs k v)) else .fail else .fail
  | _ => .fail
theorem upd_upd_self {H : Hp} {p : Addr} {o o' : HO} : upd (upd H p o) p o' = upd H p o' := by
  funext a
  by_cases z : a = p
  · subst z; rw [upd_same, upd_same]
  · rw [upd_ne z, upd_ne z, upd_ne z]
variable {ed ek ev : Expr} {md mk mv : DE} {pos : Pos}
theorem qstar (hd : QB S X ed md) (hk : QB S X ek mk) (hv : QE S X ev mv) : QF S X (.Dict [none, some ek] [ed, ev] pos) (mStar md mk mv) :=
  pe_weak (pe_star hd hk hv) fun σ H Q ⟨G, F, env, g, q⟩ p hp => by
    obtain ⟨g0, e0⟩ := g.hold hp (.dK [])
    have fp := g.free hp
    have np := g.no hp
    have nfp := g.fg.no np
    refine ⟨_, F, env, g0, M.wp_mono (M.wpb q) fun d q v G1 F1 H1 e1 g1 r1 => ?_⟩
    split at q
    · rename_i kvs
      split at q
      · rename_i hlt
        obtain ⟨a, es, rfl, hrd, rk, zk⟩ := r1.dctK g1
        have nf1 := e1.atF nfp
        have hne := fp.ne nf1 r1
        refine ⟨a, es, rfl, hne, g1.kp _ _ e1.at_, hrd, fun c hc => ?_⟩
        have x1 := e1.drop np
        have g1' : Good S (delH G1 p) F1 σ (upd H1 p (.dK es)) env := g1.drop fp e1.at_ nf1
        have g1'' : Good S (upd (delH G1 p) p (.dK es)) F1 σ (upd H1 p (.dK es)) env ∧ Ext (delH G1 p) F1 (upd (delH G1 p) p (.dK es)) F1 := by
          refine ⟨⟨fun b u e => ?_, g1'.fg.trans (sub_upd (delH_at _ _)), g1'.st, by rw [upd_ne fp.n1.symm]; exact g1'.ns, by rw [upd_ne fp.n2.symm]; exact g1'.nc, g1'.len, fun i sl e => ?_, g1'.dist⟩, ⟨sub_upd (delH_at _ _), Sub.refl _, fun _ h _ => h⟩⟩
          · by_cases z : b = p
            · subst z; rw [upd_same] at e ⊢; exact e
            · rw [upd_ne z] at e; exact g1'.kp b u e
          · have r := g1'.slot i sl e
            cases sl with
            | val d => exact r
            | bor d => obtain ⟨u, q1, q2⟩ := r; exact ⟨u, q1, q2.mono (sub_upd (delH_at _ _)) (Sub.refl _)⟩
            | own d =>
              obtain ⟨b, h1, h2, h3, h4, h5⟩ := r
              have nb : b ≠ p := fun z => fp.own i d e (by rw [h1, z])
              exact ⟨b, h1, by rw [upd_ne nb]; exact h2, h3, h4, h5⟩
        obtain ⟨g2, x2⟩ := g1''
        obtain ⟨g3, x3⟩ := g2.hold hc (.dK [])
        have nc := g2.no hc
        have nfc := g2.fg.no nc
        have fc := g2.free hc
        have hpc : p ≠ c := fun z => by rw [← z, upd_same] at hc; cases hc
        refine ⟨_, F1, env, g3, M.wp_mono (M.wpb q) fun k q u G4 F4 H4 e4 g4 r4 => ?_⟩
        split at q
        · rename_i hkey
          refine ⟨_, F4, env, g4, M.wp_mono (M.wpb q) fun y q w G5 F5 H5 e5 g5 r5 => ?_⟩
          have e45 := e4.trans e5
          have G5c : G5 c = some (.dK []) := e45.at_
          have G5p : G5 p = some (.dK es) := e45.g p _ (by rw [upd_ne hpc]; exact upd_same)
          have F5c : F5 c = none := e45.atF nfc
          have F5p : F5 p = none := e45.n p nf1 (by rw [upd_ne hpc, upd_same]; simp)
          have x45 : Ext (upd (delH G1 p) p (.dK es)) F1 (delH G5 c) F5 := e45.drop nc
          have x5 : Ext (delH G1 p) F1 (delH (delH G5 c) p) F5 := x45.drop (delH_at _ _)
          refine ⟨g5.kp _ _ G5c, g5.kp _ _ G5p, by rw [← rk.len]; exact hlt, ?_⟩
          have rk4 : Rp S F4 k u := by
            rcases r4.elim g4 with r | ⟨_, _, h4⟩
            · exact r
            · exfalso; cases k <;> first | exact h4.elim | cases hkey
          obtain ⟨kk, hkd, rfl⟩ := key_of_isKey hkey rk4
          refine ⟨kk, rfl, ?_⟩
          have g6 := g5.drop (o' := .dK [(kk, w)]) fc G5c F5c
          have dp : delH G5 c p = some (.dK es) := by unfold delH; rw [if_neg hpc]; exact G5p
          have g7 := g6.drop (o' := .dK (putK es kk w)) fp dp F5p
          have rr : RpK S F5 (putD kvs k y) (putK es kk w) := (rk.mono (e45.f)).put hkd r5
          exact (show PostF S G F σ env Q _ from q) p _ F5 _ (x1.trans x5) g7 (fp.fresh (delH_at _ _) ⟨_, upd_same, rr, by rw [← rr.len]; have h1 := putK_le es kk w; have h2 := rr.len; have h3 := rk.len; omega⟩)
        · exact q.elim
      · exact q.elim
    · exact q.elim
end

/-! ### dict(pairs), dict(d) -/
def pairsD : List D → Option (List (D × D))
  | [] => some []
  | .tup [k, v] :: r => if k.isKey then (pairsD r).map ((k, v) :: ·) else none
  | _ :: _ => none
def mergeD (kvs more : List (D × D)) : List (D × D) := more.foldl (fun acc p => putD acc p.1 p.2) kvs
def dDict : List D → M D
  | [.lst xs] => match pairsD xs with
    | some ps => .ret (.dct false (mergeD [] ps))
    | none => .fail
  | [.dct false kvs] => .ret (.dct false kvs)
  | _ => .fail
section
variable {S : SA} {X : Cx} {G F G' F' H H' : Hp} {σ : L2.St} {env : DEnv}
theorem RpK.merge {more : List (D × D)} {ms : List (Key × V)} (r : RpK S F more ms) : ∀ {kvs : List (D × D)} {es : List (Key × V)}, RpK S F kvs es → RpK S F (mergeD kvs more) (mergeK es ms) := by
  induction more generalizing ms with
  | nil => cases r; intro kvs es q; exact q
  | cons p t ih =>
    cases r with
    | cons hk hr ht => intro kvs es q; exact ih ht (q.put hk hr)
theorem pairs_read (s : Sub F H) {K : PySem.W.Frag} : ∀ {xs : List D} {vs : List V} {ps : List (D × D)}, pairsD xs = some ps → RpL S F xs vs → ∃ as kvs, vs = as.map V.ref ∧ PySem.Paired (fun p (kv : Key × V) => SqT K H p [kV kv.1, kv.2]) as kvs ∧ RpK S F ps kvs
  | [], _, ps, e, r => by
    cases r
    simp only [pairsD, Option.some.injEq] at e
    subst e
    exact ⟨[], [], rfl, .nil, .nil⟩
  | x :: xs, _, ps, e, r => by
    cases r with
    | cons r1 r2 =>
      unfold pairsD at e
      split at e
      · rename_i heq; cases heq
      · rename_i k v r' heq
        cases heq
        split at e
        · rename_i hk
          obtain ⟨ps', e1, e2⟩ := Option.map_eq_some_iff.mp e
          subst e2
          cases r1 with
          | tup h1 l1 z1 =>
            cases l1 with
            | cons rk l2 =>
              cases l2 with
              | cons rv l3 =>
                cases l3
                obtain ⟨kk, hkd, rfl⟩ := key_of_isKey hk rk
                obtain ⟨as, kvs, q1, q2, q3⟩ := pairs_read s (K := K) e1 r2
                exact ⟨_ :: as, (kk, _) :: kvs, by rw [List.map_cons, ← q1], .cons (.of (s _ _ h1)) q2, .cons hkd rv q3⟩
        · cases e
      · cases e
theorem c_dict (hc : X.calm = true) : CallF S X (.type "dict") dDict := ⟨_, callR_or (call_dictP hc) call_dictD, fun G F σ H env vs ds Q g r q => by
  unfold dDict at q
  split at q
  · rename_i xs
    split at q
    · rename_i ps hps
      obtain ⟨v, rfl, r1⟩ := rdb1 r
      obtain ⟨p, ys, rfl, h1, l1, z1⟩ := r1.lst g
      obtain ⟨as, kvs, e1, e2, e3⟩ := pairs_read g.fh (K := X.K) hps l1
      subst e1
      refine .inl ⟨p, as, kvs, rfl, .of h1, e2, fun a hn => ?_⟩
      have rr : RpK S F (mergeD [] ps) (mergeK [] kvs) := e3.merge .nil
      exact (show PostF S G F σ env Q (.dct false (mergeD [] ps)) from q) a G F _ (Ext.refl _ _) (g.new hn _) ((g.free hn).fresh (g.no hn) ⟨_, upd_same, rr, by
        have h2 := length_mergeK kvs []
        have h3 : as.length = kvs.length := e2.length
        rw [List.length_map] at z1
        rw [List.length_nil] at h2
        omega⟩)
    · exact q.elim
  · rename_i kvs
    obtain ⟨v, rfl, r1⟩ := rdb1 r
    obtain ⟨p, es, rfl, hrd, rk, zk⟩ := r1.dctK g
    exact .inr ⟨p, es, rfl, hrd, fun a hn => (show PostF S G F σ env Q (.dct false kvs) from q) a G F _ (Ext.refl _ _) (g.new hn _) ((g.free hn).fresh (g.no hn) ⟨_, upd_same, rk, zk⟩)⟩
  · exact q.elim⟩
end
end DL

set_option Elab.async false
set_option linter.all false
set_option maxRecDepth 100000
/-! DN1: dicts with nested keys, by trees. -/
namespace DL
open PySem PySem.Spec L2
open PyProof.Rows hiding St
section
variable {S : SA} {X : Cx} {G F G' F' H H' : Hp} {σ : L2.St} {env : DEnv} {d e : D} {v u : V} {p : Addr} {Q : VK}
mutual
theorem Rp.nat : ∀ {d : D} {v : V} {k : NestedKey}, Rp S F d v → D.nk d = some k → NAt F k v
  | .non, _, k, r, h => by cases r; simp [D.nk] at h; subst h; exact .none
  | .int i, _, k, r, h => by cases r; simp [D.nk] at h; subst h; exact .num i
  | .str x, _, k, r, h => by cases r; simp [D.nk] at h; subst h; exact .text x
  | .tup xs, _, k, r, h => by
    cases r with
    | tup h1 h2 h3 =>
      simp only [D.nk, Option.map_eq_some_iff] at h
      obtain ⟨ks, e, rfl⟩ := h
      exact .tup h1 (RpL.nat h2 e)
  | .bl _, _, _, _, h => by simp [D.nk] at h
  | .lst _, _, _, _, h => by simp [D.nk] at h
  | .dct _ _, _, _, _, h => by simp [D.nk] at h
  | .dcn _, _, _, _, h => by simp [D.nk] at h
  | .stt, _, _, _, h => by simp [D.nk] at h
theorem RpL.nat : ∀ {ds : List D} {vs : List V} {ks : List NestedKey}, RpL S F ds vs → D.nkL ds = some ks → NAtL F ks vs
  | [], _, ks, r, h => by cases r; simp [D.nkL] at h; subst h; exact .nil
  | x :: xs, _, ks, r, h => by
    cases r with
    | cons r t =>
      rw [D.nkL] at h
      cases h1 : D.nk x with
      | none => rw [h1] at h; simp at h
      | some k1 =>
        cases h2 : D.nkL xs with
        | none => rw [h1, h2] at h; simp at h
        | some k2 =>
          rw [h1, h2] at h
          simp at h
          subst h
          exact .cons (Rp.nat r h1) (RpL.nat t h2)
end
mutual
theorem nk_beq : ∀ (d e : D) {k l : NestedKey}, D.nk d = some k → D.nk e = some l → D.beq d e = decide (k = l)
  | .non, e, k, l, h, h' => by
    simp [D.nk] at h; subst h
    cases e <;> simp [D.nk] at h' <;> first | (subst h'; simp [D.beq]) | (obtain ⟨_, _, rfl⟩ := h'; simp [D.beq])
  | .int i, e, k, l, h, h' => by
    simp [D.nk] at h; subst h
    cases e <;> simp [D.nk] at h' <;> first | (subst h'; simp [D.beq]) | (obtain ⟨_, _, rfl⟩ := h'; simp [D.beq])
  | .str i, e, k, l, h, h' => by
    simp [D.nk] at h; subst h
    cases e <;> simp [D.nk] at h' <;> first | (subst h'; simp [D.beq]) | (obtain ⟨_, _, rfl⟩ := h'; simp [D.beq])
  | .tup xs, e, k, l, h, h' => by
    simp only [D.nk, Option.map_eq_some_iff] at h
    obtain ⟨ks, e1, rfl⟩ := h
    cases e with
    | tup ys =>
      simp only [D.nk, Option.map_eq_some_iff] at h'
      obtain ⟨ls, e2, rfl⟩ := h'
      rw [D.beq, nkL_beq xs ys e1 e2]
      by_cases z : ks = ls <;> simp [z]
    | _ => simp [D.nk] at h' <;> (subst h'; simp [D.beq])
  | .bl _, _, _, _, h, _ => by simp [D.nk] at h
  | .lst _, _, _, _, h, _ => by simp [D.nk] at h
  | .dct _ _, _, _, _, h, _ => by simp [D.nk] at h
  | .dcn _, _, _, _, h, _ => by simp [D.nk] at h
  | .stt, _, _, _, h, _ => by simp [D.nk] at h
theorem nkL_beq : ∀ (d e : List D) {k l : List NestedKey}, D.nkL d = some k → D.nkL e = some l → D.beqL d e = decide (k = l)
  | [], e, k, l, h, h' => by
    simp [D.nkL] at h; subst h
    cases e with
    | nil => simp [D.nkL] at h'; subst h'; simp [D.beqL]
    | cons y ys =>
      rw [D.nkL] at h'
      split at h'
      · simp at h'; subst h'; simp [D.beqL]
      · cases h'
  | x :: xs, e, k, l, h, h' => by
    rw [D.nkL] at h
    split at h
    · rename_i k1 k2 q1 q2
      simp at h; subst h
      cases e with
      | nil => simp [D.nkL] at h'; subst h'; simp [D.beqL]
      | cons y ys =>
        rw [D.nkL] at h'
        split at h'
        · rename_i l1 l2 q3 q4
          simp at h'; subst h'
          rw [D.beqL, nk_beq x y q1 q3, nkL_beq xs ys q2 q4]
          by_cases z1 : k1 = l1 <;> by_cases z2 : k2 = l2 <;> simp [z1, z2]
        · cases h'
    · cases h
end
theorem RpN.val : ∀ {kvs : List (D × D)} {es : List NE} {d : D} {k : NestedKey}, RpN S F kvs es → D.nk d = some k → RpO S F (valD kvs d) (valN es k)
  | _, _, _, _, .nil, _ => trivial
  | _, _, d, k, .cons (kd := kd) (k := k') (b := b) (v := v) (es := es) hk hn hl hr ht, h => by
    have ih := RpN.val ht h
    unfold valD valN at ih ⊢
    rw [List.find?_cons]
    simp only
    rw [nk_beq kd d hn h, List.map_cons]
    by_cases z : k' = k
    · rw [decide_eq_true z, valV_pos (p := (k', v)) z]; exact hr
    · rw [decide_eq_false z, valV_neg (p := (k', v)) z]; exact ih
theorem valD_any (d : D) : ∀ kvs : List (D × D), kvs.any (fun p => D.beq p.1 d) = (valD kvs d).isSome
  | [] => rfl
  | p :: r => by
    have ih := valD_any d r
    unfold valD at ih ⊢
    rw [List.any_cons, List.find?_cons, ih]
    cases D.beq p.1 d <;> simp
theorem RpN.mapPut {d e : D} {k : NestedKey} {u : V} (hk : D.nk d = some k) (hr : Rp S F e u) : ∀ {kvs : List (D × D)} {es : List NE}, RpN S F kvs es → RpN S F (kvs.map fun p => if D.beq p.1 d then (p.1, e) else p) (es.map fun x => if x.1 = k then (x.1, x.2.1, u) else x)
  | _, _, .nil => .nil
  | _, _, .cons (kd := kd) (k := k') h1 h2 h3 h4 ht => by
    rw [List.map_cons, List.map_cons]
    simp only [nk_beq kd d h2 hk]
    by_cases z : k' = k
    · rw [if_pos z]; simp only [z, decide_true, if_true]; exact .cons h1 (by rw [h2, z]) (by rw [← z]; exact h3) hr (RpN.mapPut hk hr ht)
    · rw [if_neg z]; simp only [z, decide_false]; exact .cons h1 h2 h3 h4 (RpN.mapPut hk hr ht)
theorem RpN.append : ∀ {kvs more : List (D × D)} {es ms : List NE}, RpN S F kvs es → RpN S F more ms → RpN S F (kvs ++ more) (es ++ ms)
  | _, _, _, _, .nil, s => s
  | _, _, _, _, .cons a b c d t, s => .cons a b c d (RpN.append t s)
theorem RpN.len : ∀ {kvs : List (D × D)} {es : List NE}, RpN S F kvs es → kvs.length = es.length
  | _, _, .nil => rfl
  | _, _, .cons _ _ _ _ t => congrArg (· + 1) (RpN.len t)
theorem RpN.put {kvs : List (D × D)} {es : List NE} {d e : D} {k : NestedKey} {b : Addr} {u : V} (r : RpN S F kvs es) (hd : Rp S F d (.ref b)) (hk : D.nk d = some k) (h8 : k.depth ≤ 8) (hr : Rp S F e u) : RpN S F (putD kvs d e) (putN es k b u) := by
  unfold putD putN
  have e0 : kvs.any (fun p => D.beq p.1 d) = (valN es k).isSome := by rw [valD_any, (r.val hk).isSome]
  rw [e0]
  split
  · exact RpN.mapPut hk hr r
  · exact r.append (.cons hd hk h8 hr .nil)
theorem RpN.ks (s : Sub F H) : ∀ {kvs : List (D × D)} {es : List NE}, RpN S F kvs es → KsN H es
  | _, _, .nil => fun x h => absurd h (by simp)
  | _, _, .cons a b c _ t => fun x h => by
    rcases List.mem_cons.mp h with rfl | h
    · exact ⟨(a.nat b).mono s, c⟩
    · exact RpN.ks s t x h
def keyOkN : D → Bool
  | .tup xs => match D.nk (.tup xs) with
    | some k => decide (k.depth ≤ 8)
    | none => false
  | _ => false
theorem keyOkN_elim (h : keyOkN d = true) : ∃ xs k, d = .tup xs ∧ D.nk d = some k ∧ k.depth ≤ 8 := by
  cases d with
  | tup xs =>
    cases q : D.nk (.tup xs) with
    | none => simp only [keyOkN, q] at h; cases h
    | some k => simp only [keyOkN, q] at h; exact ⟨xs, k, rfl, rfl, of_decide_eq_true h⟩
  | _ => cases h
theorem RdB.dcn {kvs : List (D × D)} (g : Good S G F σ H env) (h : RdB S F σ env (.dcn kvs) v) : ∃ p es, v = .ref p ∧ Rd H p (DnO S.pr S.wd p es) ∧ RpN S F kvs es ∧ es.length ≤ sizeLine := by
  rcases h.elim g with h | ⟨a, rfl, es, h4, h5, h6⟩
  · cases h with
    | dcn h1 h2 h3 => exact ⟨_, _, rfl, .inr ⟨_, g.fh _ _ h1⟩, h2, h3⟩
  · exact ⟨_, es, rfl, .inl h4, h5, h6⟩
theorem dgetN_of {kvs : List (D × D)} (g : Good S G F σ H env) (r1 : RdB S F σ env (.dcn kvs) v) (r2 : RdB S F σ env d u) (hk : keyOkN d = true) : ∃ a o, v = .ref a ∧ DGetN S.pr S.wd H a u o ∧ IsN S.pr S.wd H a ∧ RpO S F (valD kvs d) o := by
  obtain ⟨xs, k, rfl, hn, h8⟩ := keyOkN_elim hk
  have r2 := r2.rp g rfl
  obtain ⟨p, es, rfl, h1, h2, _⟩ := r1.dcn g
  cases r2 with
  | tup f1 f2 f3 =>
    have nat := (Rp.tup f1 f2 f3).nat hn
    exact ⟨p, _, rfl, ⟨es, k, _, h1, h2.ks g.fh, rfl, nat.mono g.fh, h8, rfl⟩, ⟨es, h1, h2.ks g.fh⟩, h2.val hn⟩
def mNewN : DE := fun _ => .ret (.dcn [])
theorem qnewN {pos : Pos} (hS : S.pr = X.prog ∧ S.wd = X.w) : QF S X (.Dict [] [] pos) mNewN := pe_weak pe_dnewN fun σ H Q ⟨G, F, env, g, q⟩ p hp =>
  (show PostF S G F σ env Q (.dcn []) from q) p G F _ (Ext.refl _ _) (g.new hp _) ⟨g.no hp, (g.stNe hp).1, (g.stNe hp).2, g.ownNe hp, [], by rw [hS.1, hS.2]; exact upd_same, .nil, Nat.zero_le _⟩
section
variable {a b e o : Expr} {m ma mb mk mv mx : DE} {i : Nat} {pos : Pos}
def mPutN (i : Nat) (mk mv : DE) : DS := fun env => mv env >>= fun d => mk env >>= fun k => match env[i]? with
  | some (some (.own (.dcn kvs))) => if keyOkN k && decide (kvs.length < sizeLine) then .ret (.nx, env.set i (some (.own (.dcn (putD kvs k d))))) else .fail
  | _ => .fail
theorem qputN (i : Nat) {x : Str} {np tpos : Pos} (hS : S.pr = X.prog ∧ S.wd = X.w) (hu : X.A.units + 64 < cLine) (hk : QB S X b mk) (hv' : QE S X e mv) (hN : X.N[i]? = some x := by rfl) (hv : Vis X.env.scope x := by first | exact Or.inl rfl | exact Or.inr (Or.inl rfl) | exact Or.inr (Or.inr rfl)) (hd : (x == ("__debug__" : Str)) = false := by decide)
    (hcd : (x == ("__classdict__" : Str)) = false := by decide) (hs : swapsWith e (some (.Subscript (.Name x np) b tpos)) pos.line X.env = pure false := by rfl) : QS S X (.Assign [.Subscript (.Name x np) b tpos] e pos) (mPutN i mk mv) :=
  ps_weak (ps_dputN hu (pe_var hN hv hd hcd) hk hv' hs) fun D' σ H ⟨G, F, env, g, q⟩ => by
    refine ⟨G, F, env, g, M.wp_mono (M.wpb q) fun d q v G1 F1 H1 e1 g1 r1 => ?_⟩
    obtain ⟨kvs, e⟩ : ∃ kvs, env[i]? = some (some (.own (.dcn kvs))) := wp_det (M.wpb q) fun a h => by
      split at h
      · rename_i kvs e; exact ⟨kvs, e⟩
      · exact h.elim
    obtain ⟨a, ha', _⟩ := g1.slot i _ e
    have q' := M.wpb q
    rw [e] at q'
    refine ⟨.ref a, ha', G1, F1, env, g1, M.wp_mono q' fun k q u G2 F2 H2 e2 g2 r2 => ?_⟩
    simp only at q
    split at q
    · rename_i hc
      rw [Bool.and_eq_true, decide_eq_true_eq] at hc
      obtain ⟨b, b1, b2, b3, b4, es, o1, o2, o3⟩ := g2.slot i _ e
      rw [ha'] at b1
      cases b1
      obtain ⟨xs, kk, rfl, hn, h8⟩ := keyOkN_elim hc.1
      have r2 := r2.rp g2 rfl
      have n := o2.len
      have nz : es.length < sizeLine := by omega
      cases r2 with
      | tup f1 f2 f3 =>
        have rt := Rp.tup (S := S) f1 f2 f3
        refine ⟨a, _, rfl, ⟨es, kk, _, by rw [← hS.1, ← hS.2]; exact o1, o2.ks g2.fh, rfl, (rt.nat hn).mono g2.fh, h8, nz, rfl⟩, q _ G2 F2 _ (e1.trans e2) (g2.ownPut e ha' ⟨_, by rw [hS.1, hS.2]; exact upd_same, o2.put rt hn h8 (r1.mono e2.f), ?_⟩)⟩
        have := putN_le es kk (by assumption) v
        omega
    · exact q.elim
def mGetN (mo mk mx : DE) : DE := fun env => mo env >>= fun o => match o with
  | .dcn kvs => mk env >>= fun k => mx env >>= fun x => if keyOkN k then .ret ((valD kvs k).getD x) else .fail
  | _ => .fail
theorem qgetN {apos cpos : Pos} (hS : S.pr = X.prog ∧ S.wd = X.w) (hu : X.A.units + 64 < cLine) (ho : QB S X o m) (hk : QB S X a ma) (hx : QE S X b mb) (hbase : attributeBase o "get" X.env (eval o X.env) = eval o X.env := by rfl)
    (hfew : ((backTo cpos (starEach [a, b] X.env)).all (fun x => !x.1) && (backToKw cpos (keywordEach [] X.env)).all (fun x => x.1.isSome)
      && decide (([a, b] : List Expr).length + ([] : List Keyword).length + (if ([] : List Keyword).isEmpty then 0 else 1) < 30)) = true := by rfl)
    (hline : (apos.endLine == cpos.line) = true := by rfl) (htr : backTo cpos (starEach [a, b] X.env) = [(false, eval a X.env), (false, eval b X.env)] := by rfl) : QE S X (.Call (.Attribute o "get" apos) [a, b] [] cpos) (mGetN m ma mb) :=
  pe_weak (pe_dget2N hu ho hk hx ⟨hbase, hfew, hline, htr⟩) fun σ H Q ⟨G, F, env, g, q⟩ => ⟨G, F, env, g, M.wp_mono (M.wpb q) fun d q v G1 F1 H1 e1 g1 r1 => by
    cases d with
    | dcn kvs =>
      obtain ⟨a, es, rfl, hd, hr, _⟩ := r1.dcn g1
      refine ⟨a, rfl, ⟨es, by rw [← hS.1, ← hS.2]; exact hd, hr.ks g1.fh⟩, G1, F1, env, g1, M.wp_mono (M.wpb q) fun k q u G2 F2 H2 e2 g2 r2 => ⟨G2, F2, env, g2, M.wp_mono (M.wpb q) fun x q z G3 F3 H3 e3 g3 r3 => ?_⟩⟩
      split at q
      · obtain ⟨a', ov, ea, dg, _, ro⟩ := dgetN_of g3 (r1.mono (e2.f.trans e3.f)) (r2.mono e3.f) (by assumption)
        cases ea
        refine ⟨ov, by rw [← hS.1, ← hS.2]; exact dg, (post_shift (e1.trans (e2.trans e3)) q).now g3 ?_⟩
        cases ov with
        | none =>
          cases hh : valD kvs k with
          | none => exact r3
          | some w => rw [hh] at ro; exact ro.elim
        | some w =>
          cases hh : valD kvs k with
          | none => rw [hh] at ro; exact ro.elim
          | some w' => rw [hh] at ro; exact ro
      · exact q.elim
    | _ => exact q.elim⟩
def dIxN : D → D → M D
  | .dcn kvs, k => if keyOkN k then M.opt (valD kvs k) else .fail
  | _, _ => .fail
end
end
end DL

set_option Elab.async false
set_option linter.all false
set_option maxRecDepth 100000
/-! DN2: dicts with nested keys: d[k], sorted(d). -/
namespace DL
open PySem PySem.Spec L2
open PyProof.Rows hiding St
section
variable {S : SA} {X : Cx} {G F G' F' H H' : Hp} {σ : L2.St} {env : DEnv} {d e : D} {v u : V} {p : Addr} {Q : VK}
theorem qixN {a b : Expr} {ma mb : DE} {pos : Pos} (hS : S.pr = X.prog ∧ S.wd = X.w) (hu : X.A.units + 64 < cLine) (ha : QB S X a ma) (hb : QB S X b mb) (hs : PlainIx b := by intro _ _; rfl) : QE S X (.Subscript a b pos) (mBin dIxN ma mb) :=
  pe_weak (pe_ix (ix_dcn hu) ha hb hs) fun σ H Q ⟨G, F, env, g, q⟩ => two ma mb (PP := fun G F => Post S G F σ env Q) g q (fun _ _ _ _ _ => post_shift) fun G F H x y d e g r1 r2 q => by
    cases d with
    | dcn kvs =>
      have q' : (if keyOkN e then M.opt (valD kvs e) else M.fail).wp (Post S G F σ env Q) := q
      split at q'
      · obtain ⟨w, hw, q2⟩ := M.wp_opt q'
        obtain ⟨a, o, e1, e2, _, e3⟩ := dgetN_of g r1 r2 (by assumption)
        rw [hw] at e3
        cases o with
        | none => exact e3.elim
        | some u => exact ⟨a, u, e1, by rw [← hS.1, ← hS.2]; exact e2, q2.now g e3⟩
      · exact q'.elim
    | _ => exact q.elim
/-! ### sorted(d) -/
def rSortedN (P : Program) (w : World) (K : PySem.W.Frag) : List V → Hp → VK → Prop := fun vs H Q => ∃ (a : Addr) (es : List NE) (ds : List D), vs = [V.ref a] ∧ Rd H a (DnO P w a es) ∧ KsN H es ∧ DpAll K H (es.map fun x => V.ref x.2.1) (D.pyL ds) ∧ srtOk ds = true ∧
  ∀ (ps : List (V × D)) (p : Addr), ps.Perm ((es.map fun x => V.ref x.2.1).zip ds) → ps.map (·.2) = sortD ds → H p = none → Q (.ref p) (upd H p (.lst (ps.map (·.1))))
theorem NT.keys : ∀ {es : List NE} {xs : List (NestedKey × Addr × Value)}, NT es xs → (es.map fun x => x.2.1) = xs.map fun x => x.2.1
  | _, _, .nil => rfl
  | _, _, .cons h t => by rw [List.map_cons, List.map_cons, h.2.1, NT.keys t]
theorem vals_refs : ∀ bs : List Addr, Vals (bs.map V.ref) (bs.map Value.ref)
  | [] => .nil
  | b :: bs => .cons rfl (vals_refs bs)
theorem each_fresh {h : Heap} {a : Addr} (ha : h.get? a = none) : ∀ {us : List Value} {ps : List (V × D)}, PySem.W.EachIs (fun (u : Value) (p : V × D) => ∃ as, Reads h u p.2.py as) us ps → PySem.W.EachIs (fun (u : Value) (p : V × D) => ∃ as, Reads h u p.2.py as ∧ a ∉ as) us ps :=
  fun e => e.mono fun u p ⟨as, r⟩ => ⟨as, r, fun hm => by
    obtain ⟨o, ho⟩ := PyProof.On.readsAll_mem_get (h := h) (vs := [u]) (ds := [p.2.py]) (as := as ++ []) (.cons r .nil) a (by simpa using hm)
    rw [ha] at ho; cases ho⟩
theorem cr_sortedN (hc : X.calm = true) (hu : X.A.units + 64 < cLine) : CallR X (.builtin "sorted") (rSortedN X.prog X.w X.K) := by
  intro pins s σ H vs us Q I r h
  obtain ⟨a, es, ds, rfl, hd, hks, hdp, ho, q⟩ := h
  rw [Vals.ref1 r]
  obtain ⟨z, lo, xs, rel, o, es', ep, h1, h2, h3, h4, _, _⟩ := dn_rd I.hok hd hks
  have raw : s.heap.DictRaw a es' ep := ⟨o, h1, h2, h3⟩
  have hsz : es'.size = es.length := by
    have e := congrArg List.length h4
    rw [Array.length_toList, List.length_map] at e
    rw [e]; exact (Paired.length rel).symm
  have h16 : es'.size ≤ sizeLine := by rw [hsz]; exact z
  refine Calls.call_function_entry PyProof.Rows.kind_sorted PyProof.Rows.plain_sorted PyProof.Rows.entry_sorted (PyProof.Rows.args_sorted1 _) ?_
  unfold Builtin.«sorted»
  refine wpAny_bind (m := checkCount "sorted" 1 1 _) (wpAny_pure ?_)
  refine wpAny_bind (PySem.W.kdu_collect (A := X.A.in1) (KdlSrc.rawDict lo) (I.ok.hd hc) raw h16 fun h' tk acc hk hacc => ?_)
  have hal : acc.toList = (es.map fun x => x.2.1).map Value.ref := by
    apply List.ext_getElem?
    intro j
    have hj : acc.toList.length = es.length := by rw [Array.length_toList, hacc.1, hsz]
    by_cases hlt : j < es.length
    · obtain ⟨v, hv⟩ : ∃ v, acc.toList[j]? = some v := ⟨_, List.getElem?_eq_getElem (by omega)⟩
      obtain ⟨hi, e2⟩ := hacc.2 j v (by rw [← Array.getElem?_toList]; exact hv)
      rw [hv, e2]
      have e3 : es'.toList[j]? = (xs.map (entryOfKey (nestedKind X.prog X.w)))[j]? := by rw [h4]
      have e4 : es'.toList[j]? = some es'[j] := by rw [Array.getElem?_toList]; exact Array.getElem?_eq_getElem hi
      rw [e4, List.getElem?_map] at e3
      have e5 : (es.map fun x => x.2.1)[j]? = (xs.map fun x => x.2.1)[j]? := by rw [NT.keys rel]
      rw [List.getElem?_map, e5, List.getElem?_map]
      cases hx : xs[j]? with
      | none => rw [hx] at e3; cases e3
      | some x =>
        rw [hx] at e3
        have e6 := Option.some.inj e3
        rw [e6]; rfl
    · rw [List.getElem?_eq_none (by omega), List.getElem?_eq_none (by rw [List.length_map, List.length_map]; omega)]
  have hlen : acc.toList.length = es.length := by rw [hal, List.length_map, List.length_map]
  have I1 : Inv X pins σ H { s with heap := h', toks := tk } := I.kept hk
  refine wpAny_bind (wpAny_newList ?_ (by rw [hlen]; exact z))
  have hoL : (h'.push (seqObj "list" acc.toList.toArray 0)).get? h'.objs.size = some (seqObj "list" acc.toList.toArray 0) := Heap.get?_push_size _ rfl
  show wpAny _ _ _ _ _ { s with heap := h'.push (seqObj "list" acc.toList.toArray 0), toks := tk }
  have I2 : Inv X pins σ H { s with heap := h'.push (seqObj "list" acc.toList.toArray 0), toks := tk } := I.kept fun b o e => Heap.get?_push_of_some _ (hk b o e)
  let ys := es.map fun x => V.ref x.2.1
  have eys : ys = (es.map fun x => x.2.1).map V.ref := by simp [ys]
  have rv : Vals ys acc.toList := by rw [hal, eys]; exact vals_refs _
  have hyl : ys.length = ds.length := by
    have := dpAll_len hdp
    rw [this, D.pyL_map, List.length_map]
  obtain ⟨as, hr⟩ := Dp.readsAll I1 (D.pyL ds) ys acc.toList hdp rv
  have er0 := each_fresh (a := h'.objs.size) (by
    cases hg : h'.get? h'.objs.size with
    | none => rfl
    | some ob => exact absurd (Heap.lt_size hg) (Nat.lt_irrefl _)) (each_reads hr hyl)
  have er : PySem.W.EachIs (fun (u : Value) (p : V × D) => ∃ as, Reads (h'.push (seqObj "list" acc.toList.toArray 0)) u p.2.py as ∧ h'.objs.size ∉ as) acc.toList (ys.zip ds) := er0.mono fun u p ⟨as, r, n⟩ => ⟨as, PyProof.Rows.Reads.keeps (fun _ _ e => Heap.get?_push_of_some _ e) r, n⟩
  have hb := zip_snd ys ds hyl
  have hm : (ys.zip ds).map (fun p : V × D => p.2.py) = ds.map D.py := by
    conv => rhs; rw [← hb]
    rw [List.map_map] <;> rfl
  refine wpAny_bind (wpAny_holding (PySem.W.list_sort_data (s := { s with heap := h'.push (seqObj "list" acc.toList.toArray 0), toks := tk }) (enc := fun p : V × D => p.2.py) (vs := acc.toList) hoL (each_zip (K := X.K) rv hyl) er (by rw [hm]; exact srt_alike ho) (by rw [hm]; exact srt_sortable ho)
    (by rw [List.length_zip, hyl, Nat.min_self, ← hyl]; simp only [ys, List.length_map]; exact z) (fun b hb' => ?_) fun out e1 e2 => ?_))
  · have : b.2 ∈ ds := by rw [← hb]; exact List.mem_map.mpr ⟨b, hb', rfl⟩
    have h60 := D.dep 60 b.2 (srtOk_pl ho _ this)
    simp only [Around.in1_units]
    omega
  · have hp := List.mergeSort_perm (ys.zip ds) (PySem.W.dataLe false fun p : V × D => p.2.py)
    obtain ⟨ep2, he'⟩ := PyProof.Rows.sortedHeap_at (vs := acc.toList) (out := out.toArray) hoL
    have hl2 : (((ys.zip ds).mergeSort (PySem.W.dataLe false fun p : V × D => p.2.py)).map (·.1)).length ≤ sizeLine := by
      rw [List.length_map, hp.length_eq, List.length_zip, hyl, Nat.min_self, ← hyl]; simp only [ys, List.length_map]; exact z
    refine wpAny_pure ⟨_, rfl, .ref h'.objs.size, upd H h'.objs.size (.lst (((ys.zip ds).mergeSort (PySem.W.dataLe false fun p : V × D => p.2.py)).map (·.1))), I1.laid (t' := tk) (fun b u e => ?_) (Nat.le_refl _) ⟨hl2, out, ep2, each_vals e2, he'⟩, rfl,
      q _ _ hp (srtd_merge ds _ hb ho) (I1.hok.fresh (Nat.le_refl _))⟩
    have hbl : b < h'.objs.size := Heap.lt_size e
    rw [PyProof.Rows.sortedHeap_old (Nat.ne_of_lt hbl) (by rw [size_push']; exact Nat.lt_succ_of_lt hbl)]
    exact Heap.get?_push_of_some _ e
def dSortedN : List D → M D
  | [.dcn kvs] => if srtOk (kvs.map (·.1)) then .ret (.lst (sortD (kvs.map (·.1)))) else .fail
  | _ => .fail
theorem RpN.keys : ∀ {kvs : List (D × D)} {es : List NE}, RpN S F kvs es → RpL S F (kvs.map (·.1)) (es.map fun x => V.ref x.2.1)
  | _, _, .nil => .nil
  | _, _, .cons a _ _ _ t => .cons a (RpN.keys t)
theorem c_sortedN (hS : S.pr = X.prog ∧ S.wd = X.w) (hc : X.calm = true) (hu : X.A.units + 64 < cLine) : CallF S X (.builtin "sorted") dSortedN := ⟨_, cr_sortedN hc hu, fun G F σ H env vs ds Q g r q => by
  unfold dSortedN at q
  split at q
  · rename_i kvs
    split at q
    · rename_i ho
      obtain ⟨v, rfl, r1⟩ := rdb1 r
      obtain ⟨p, es, rfl, h1, l1, z1⟩ := r1.dcn g
      have hpl : D.plL 60 (kvs.map (·.1)) = true := by
        unfold srtOk at ho; simp only [Bool.and_eq_true] at ho; exact ho.1.1
      have hd : DpAll X.K H (es.map fun x => V.ref x.2.1) (D.pyL (kvs.map (·.1))) := (RpL.dp (K := X.K) g.fh 60 _ hpl l1.keys).1
      refine ⟨p, es, kvs.map (·.1), rfl, by rw [← hS.1, ← hS.2]; exact h1, l1.ks g.fh, hd, ho, fun ps a hp he hn => ?_⟩
      have hr : RpL S F (sortD (kvs.map (·.1))) (ps.map (·.1)) := by
        rw [← he]
        exact RpL.of_mem fun z hz => l1.keys.zip_mem z (hp.mem_iff.mp hz)
      exact PostF.lst (show PostF S G F σ env Q (.lst (sortD (kvs.map (·.1)))) from q) g hn hr (by rw [List.length_map, hp.length_eq, List.length_zip, List.length_map]; omega)
    · exact q.elim
  · exact q.elim⟩
end
end DL

set_option Elab.async false
set_option linter.all false
set_option maxRecDepth 100000
/-! DN3: dicts with nested keys: walks over keys and pairs, {k: v}; sorted of tuples. -/
namespace DL
open PySem PySem.Spec L2
open PyProof.Rows hiding St
section
variable {X : Cx} {pins : List (Addr × Obj)} {σ : L2.St} {H : Hp} {s : Shared} {d : Addr} {o : Obj}
theorem frzN {es : List NE} (I : Inv X pins σ H s) (h : H d = some (.frz o (DnO X.prog X.w d es))) :
    (d == sysModules) = false ∧ s.heap.get? d = some o ∧ o.ExactDict ∧ ∃ (as : Array DictEntry) (ep : Nat), o.data = .dict as ep ∧ as.size = es.length ∧
      ∀ (i : Nat) (k : NestedKey) (b : Addr) (v : V), es[i]? = some (k, b, v) → ∃ hi : i < as.size, as[i].key = .ref b ∧ RelV v as[i].val := by
  obtain ⟨hd, ⟨z, hs, xs, pr, o', as, ep, ho, hx, hdt, he, _⟩, _⟩ := (show ObjOk X.prog X.w H s.heap d (.frz o (DnO X.prog X.w d es)) from I.hok d _ h)
  rw [hd] at ho
  cases ho
  have l1 : as.size = xs.length := by
    have e := congrArg List.length he
    rw [Array.length_toList, List.length_map] at e
    exact e
  have l2 : es.length = xs.length := Paired.length pr
  refine ⟨hs, hd, hx, as, ep, hdt, by omega, fun i k b v e => ?_⟩
  obtain ⟨y, hy, e1, e2, e3⟩ := paired_get pr e
  have hi : i < as.size := by rw [l1]; exact (List.getElem?_eq_some_iff.mp hy).1
  have q : as.toList[i]? = (xs.map (entryOfKey (nestedKind X.prog X.w)))[i]? := by rw [he]
  rw [List.getElem?_map, hy, Array.getElem?_toList, Array.getElem?_eq_getElem hi] at q
  have q2 := Option.some.inj q
  refine ⟨hi, by rw [q2]; show Value.ref y.2.1 = Value.ref b; rw [← e2], by rw [q2]; exact e3⟩
end
def ItkN (P : Program) (w : World) (d : Addr) (o : Obj) (es : List NE) : It :=
  ⟨fun i H => H d = some (.frz o (DnO P w d es)) ∧ i < es.length, fun i H x H' => H' = H ∧ ∃ k b v, es[i]? = some (k, b, v) ∧ x = .ref b, fun i H => H d = some (.frz o (DnO P w d es)) ∧ es.length ≤ i⟩
def ItiN (P : Program) (w : World) (d : Addr) (o : Obj) (es : List NE) : It :=
  ⟨fun i H => H d = some (.frz o (DnO P w d es)) ∧ i < es.length, fun i H x H' => ∃ T k b v, es[i]? = some (k, b, v) ∧ x = .ref T ∧ H T = none ∧ H' = upd H T (.tup [.ref b, v]), fun i H => H d = some (.frz o (DnO P w d es)) ∧ es.length ≤ i⟩
section
variable {P : Program} {w : World} {K : PySem.W.Frag} {tg : Expr} {d : Addr} {o : Obj} {as : Array DictEntry} {ep : Nat}
theorem turn_keysN {es : List NE} (it : Addr) (hod : o.data = .dict as ep) : Turn P w K tg (ItkN P w d o es) [it] it (fun i h => h.IsKeyIter it d i es.length ep) where
  mem := by simp
  obj := fun i h st b hb => by
    have e : b = it := by simpa using hb
    subst e
    obtain ⟨oi, e, c, dd⟩ := st
    exact ⟨oi, e, fun v z => by rw [dd] at z; cases z⟩
  keep := fun i h h' st k => st.at fun oi e => k it (by simp) oi e
  item := by
    intro X hP hw hK hc i pins s σ H E I hf st hg
    subst hP hw hK
    obtain ⟨hd, hi⟩ := hg
    obtain ⟨f0, f1, f2, f3, f4, f5⟩ := hf it (by simp)
    obtain ⟨hs, hgd, hx, as', ep', hdt, hsz, ent⟩ := frzN I hd
    obtain ⟨rfl, rfl⟩ := dict_ep hod hdt
    obtain ⟨⟨k, b, v⟩, hkv⟩ : ∃ p, es[i]? = some p := ⟨es[i], List.getElem?_eq_getElem hi⟩
    obtain ⟨ha, hkey, hv⟩ := ent i k b v hkv
    refine next_key_item st hgd hdt hsz (Array.getElem?_eq_getElem ha) fun h' st' sb => ?_
    have I1 : Inv X pins σ H { s with heap := h' } := I.turned (t' := s.toks) (fun b ob hb e => (sb.2 b hb).trans e) f0 f1 f3 f4 f5
    obtain ⟨oi, e, c, dd⟩ := id st'
    exact ⟨_, rfl, go_of (s := { s with heap := h' }) e c dd (by decide) ⟨.ref b, H, I1, hkey, ⟨rfl, k, b, v, hkv, rfl⟩, st', fun b hb => (hf b hb).1⟩⟩
  done := by
    intro X hP hw hK hc i pins s σ H E I hf st hg
    subst hP hw hK
    obtain ⟨hd, hi⟩ := hg
    obtain ⟨f0, f1, f2, f3, f4, f5⟩ := hf it (by simp)
    obtain ⟨hs, hgd, hx, as', ep', hdt, hsz, ent⟩ := frzN I hd
    obtain ⟨rfl, rfl⟩ := dict_ep hod hdt
    exact next_key_end (I.ok.hd hc) st hgd hdt hsz hi fun h' eb => ⟨rfl, I.turned (t' := s.toks) (fun b ob hb e => eb b ob hb e) f0 f1 f3 f4 f5⟩
  self := fun A i s Q E st h => by
    refine wpAny_pyIter_slot st.typeIs F.slot_dict_keyiterator_iter (wpAny_call_entry F.slot_dict_keyiterator_iter st.typeIs F.entry_dict_keyiterator_iter ?_ (F.args_dict_keyiterator_iter_1 _))
    show wpAny _ _ (ret (.ref it)) _ _ s
    exact wpAny_pure ⟨_, rfl, "dict_keyiterator", _, st.typeIs, F.slot_dict_keyiterator_next.lookup, h⟩
theorem turn_itemsN {es : List NE} {elts : List Expr} {kk : Nat} {tpos : Pos} (it : Addr) (hod : o.data = .dict as ep) :
    Turn P w K (.Tuple elts kk tpos) (ItiN P w d o es) [it] it (fun i h => ∃ ok ov, IsItemIter h it d i es.length ep ok ov) where
  mem := by simp
  obj := fun i h st b hb => by
    have e : b = it := by simpa using hb
    subst e
    obtain ⟨ok, ov, e⟩ := st
    exact ⟨_, e, fun v z => nomatch z⟩
  keep := fun i h h' st k => let ⟨ok, ov, e⟩ := st; ⟨ok, ov, k it (by simp) _ e⟩
  item := by
    intro X hP hw hK hc i pins s σ H E I hf st hg
    subst hP hw hK
    obtain ⟨hd, hi⟩ := hg
    obtain ⟨hs, hgd, hx, as', ep', hdt, hsz, ent⟩ := frzN I hd
    obtain ⟨rfl, rfl⟩ := dict_ep hod hdt
    obtain ⟨⟨k, b, v⟩, hkv⟩ : ∃ p, es[i]? = some p := ⟨es[i], List.getElem?_eq_getElem hi⟩
    obtain ⟨ha, hkey, hv⟩ := ent i k b v hkv
    obtain ⟨ok, ov, he⟩ := st
    rw [← hsz] at he
    have hlt : it < s.heap.objs.size := Heap.lt_size he
    refine wpAny_pyNext_items_item_raw he ⟨o, hgd, hx, hdt⟩ ha fun h' ho hT hz hk => ?_
    refine ⟨_, rfl, wpAny_letOwnedTupleGo_items (s := { s with heap := h' }) ho fun h'' he' sb => ?_⟩
    have hT2 : h''.get? s.heap.objs.size = some { cls := .type "tuple", data := .seq #[_, _] } := (sb.2 _ (Nat.ne_of_gt hlt)).trans hT
    have new : ObjOk X.prog X.w (upd H s.heap.objs.size (.tup [.ref b, v])) h'' s.heap.objs.size (.tup [.ref b, v]) :=
      ⟨by show 2 ≤ sizeLine; decide, [_, _], .cons hkey (.cons hv .nil), ⟨_, hT2, rfl, _, rfl⟩⟩
    have I1 : Inv X pins σ (upd H s.heap.objs.size (.tup [.ref b, v])) { s with heap := h'' } :=
      I.turnedNew (t' := s.toks) (ch := [it]) (fun b ob hb e => (sb.2 b (by simpa using hb)).trans (hk b ob (by simpa using hb) e)) hf (Nat.le_refl _) new
    refine ⟨.ref s.heap.objs.size, _, I1, rfl, ⟨_, k, b, v, hkv, rfl, I.hok.fresh (Nat.le_refl _), rfl⟩, ⟨as'[i].key, as'[i].val, by rw [← hsz]; exact he'⟩, fun b hb => ?_⟩
    · have e : b = it := by simpa using hb
      rw [e, upd_ne (Nat.ne_of_lt hlt)]
      exact (hf it (by simp)).1
  done := by
    intro X hP hw hK hc i pins s σ H E I hf st hg
    subst hP hw hK
    obtain ⟨hd, hi⟩ := hg
    obtain ⟨f0, f1, f2, f3, f4, f5⟩ := hf it (by simp)
    obtain ⟨hs, hgd, hx, as', ep', hdt, hsz, ent⟩ := frzN I hd
    obtain ⟨rfl, rfl⟩ := dict_ep hod hdt
    obtain ⟨ok, ov, he⟩ := st
    rw [← hsz] at he
    exact wpAny_pyNext_items_end_raw (I.ok.hd hc) he ⟨o, hgd, hx, hdt⟩ (by omega) fun h' eb => ⟨rfl, I.turned (t' := s.toks) (fun b ob hb e => eb b ob hb e) f0 f1 f3 f4 f5⟩
  self := fun A i s Q E st h => let ⟨_, _, e⟩ := st; PySem.W.kcp_self e h
end
def iKeysN_ (P : Program) (w : World) (td : TE) : TI := fun σ H R => td σ H fun x H1 => ∃ d o es, x = .ref d ∧ H1 d = some (.frz o (DnO P w d es)) ∧ R (ItkN P w d o es) H1
def iItemsN_ (P : Program) (w : World) (td : TE) : TI := fun σ H R => td σ H fun x H1 => ∃ d o es, x = .ref d ∧ H1 d = some (.frz o (DnO P w d es)) ∧ R (ItiN P w d o es) H1
section
variable {X : Cx} {tg e : Expr} {td : TE} {apos cpos : Pos}
theorem pi_keysN (he : PE X e td) : PI X tg e (iKeysN_ X.prog X.w td) := by
  refine ⟨fun pins s σ H R I h => ?_⟩
  refine thn (he.run pins s σ H _ I h) fun u s1 ⟨x, H1, I1, rx, d, o, es, ex, hd, q⟩ => ?_
  subst ex
  obtain rfl : u = Value.ref d := rx
  obtain ⟨hs, hgd, hx, as, ep, hdt, hsz, ent⟩ := frzN I1 hd
  refine iter_keys hs hgd hx hdt (pi_one (tk := s1.toks) I1 _ (turn_keysN _ hdt) ⟨_, Heap.get?_push_size _ rfl, rfl, ?_⟩ q)
  rw [hsz] <;> rfl
theorem pi_itemsN {elts : List Expr} {kk : Nat} {tpos : Pos} (he : PE X e td) (hbase : attributeBase e "items" X.env (eval e X.env) = eval e X.env := by rfl) (hline : (apos.endLine == cpos.line) = true := by rfl) :
    PI X (.Tuple elts kk tpos) (.Call (.Attribute e "items" apos) [] [] cpos) (iItemsN_ X.prog X.w td) := by
  refine ⟨fun pins s σ H R I h => ?_⟩
  refine wpAny_Call_method (T := "dict") (id := "dict.items") hbase rfl hline F.plainAttrs_dict F.slot_dict_items F.type_dict_items (thn (he.run pins s σ H _ I h) fun u s1 ⟨x, H1, I1, rx, d, o, es, ex, hd, q⟩ => ?_)
  subst ex
  obtain rfl : u = Value.ref d := rx
  obtain ⟨hs, hgd, hx, as, ep, hdt, hsz, ent⟩ := frzN I1 hd
  have raw : s1.heap.DictRaw d as ep := ⟨o, hgd, hx, hdt⟩
  refine ⟨raw.typeIs, fun b q => by cases q; exact ⟨o, hgd, hx.2.1⟩, ?_⟩
  have I2 : Inv X pins σ H1 { s1 with heap := s1.heap.push { cls := .type "dict_items", data := .fields #[.ref d] } } := I1.kept (t' := s1.toks) fun b ob q => Heap.get?_push_of_some _ q
  have fin : wpAny (model X.prog X.w) X.A (pyIter (.ref s1.heap.objs.size)) (PIE X pins σ (.Tuple elts kk tpos) R) X.xe { s1 with heap := s1.heap.push { cls := .type "dict_items", data := .fields #[.ref d] } } := by
    refine wpAny_pyIter_items_raw (d := d) (es := as) (ep := ep) ⟨_, Heap.get?_push_size _ rfl, rfl, rfl⟩ (raw.at fun _ e => Heap.get?_push_of_some _ e) (pi_one (tk := s1.toks) I2 _ (turn_itemsN _ hdt) ⟨.none, .none, ?_⟩ q)
    rw [← hsz]
    exact Heap.get?_push_size _ rfl
  show wpAny _ _ (callWith cpos (.builtin "dict.items") [.ref d] [] []) _ X.xe s1
  exact method_meetsIn F.slot_dict_items F.entry_dict_items rfl (PySem.evalArgs_none ⟨rfl, raw.typeIs, F.args_dict_items_1 _, _, meets_dict_items_raw d hs, ⟨⟨as, ep, raw⟩, fin⟩⟩)
end
section
variable {S : SA} {X : Cx} {G F G' F' H H' : Hp} {σ : L2.St} {env : DEnv} {d e : D} {v u : V} {p : Addr} {Q : VK} {m mk mv : DE}
/-! ### walks, by trees -/
theorem RpN.get : ∀ {kvs : List (D × D)} {es : List NE} {i : Nat} {x : D × D}, RpN S F kvs es → kvs[i]? = some x → ∃ k b v, es[i]? = some (k, b, v) ∧ Rp S F x.1 (.ref b) ∧ Rp S F x.2 v
  | _, _, _, _, .nil, e => by simp at e
  | _, _, 0, x, .cons (k := k) (b := b) (v := v) a _ _ c _, e => by simp at e; subst e; exact ⟨k, b, v, rfl, a, c⟩
  | _, _, i + 1, x, .cons _ _ _ _ t, e => by
    obtain ⟨k, b, v, h1, h2⟩ := RpN.get (i := i) (x := x) t (by simpa using e)
    exact ⟨k, b, v, by simpa using h1, h2⟩
structure IMSub (I : IM) : Prop where
  sub : ∀ {F' F2 : Hp} {σ σ2 : L2.St} {env env2 : DEnv}, I.P F' σ env F2 σ2 env2 → Sub F' F2
theorem imForSub : IMSub imFor := ⟨fun h => h⟩
theorem imCompSub (vs : List Nat) : IMSub (imComp vs) := ⟨fun h => h.1⟩
theorem its_keysN {I : IM} (O : IMSub I) {kvs : List (D × D)} {es : List NE} {a : Addr} {o : Obj} (f : F' a = some (.frz o (DnO S.pr S.wd a es))) (r : RpN S F' kvs es) : ItsD S (ItkN S.pr S.wd a o es) (I.P F' σ env) (kvs.map (·.1)) where
  go := fun i G2 F2 σ2 H2 env2 hp g hi => ⟨g.fh _ _ (O.sub hp _ _ f), by rw [← r.len]; simpa using hi⟩
  stop := fun i G2 F2 σ2 H2 env2 hp g hi => ⟨g.fh _ _ (O.sub hp _ _ f), by rw [← r.len]; simpa using hi⟩
  yld := fun i G2 F2 σ2 H2 env2 x H3 d hp g hd y => by
    obtain ⟨rfl, k, b, v, h1, rfl⟩ := y
    rw [List.getElem?_map, Option.map_eq_some_iff] at hd
    obtain ⟨p, hp1, rfl⟩ := hd
    obtain ⟨k', b', v', h2, h3, _⟩ := r.get hp1
    rw [h1] at h2
    cases h2
    exact ⟨G2, F2, Ext.refl _ _, g, h3.mono (O.sub hp)⟩
def pairD (p : D × D) : D := .tup [p.1, p.2]
theorem its_itemsN {I : IM} (O : IMSub I) {kvs : List (D × D)} {es : List NE} {a : Addr} {o : Obj} (f : F' a = some (.frz o (DnO S.pr S.wd a es))) (r : RpN S F' kvs es) : ItsD S (ItiN S.pr S.wd a o es) (I.P F' σ env) (kvs.map pairD) where
  go := fun i G2 F2 σ2 H2 env2 hp g hi => ⟨g.fh _ _ (O.sub hp _ _ f), by rw [← r.len]; simpa using hi⟩
  stop := fun i G2 F2 σ2 H2 env2 hp g hi => ⟨g.fh _ _ (O.sub hp _ _ f), by rw [← r.len]; simpa using hi⟩
  yld := fun i G2 F2 σ2 H2 env2 x H3 d hp g hd y => by
    obtain ⟨T, k, b, v, h1, rfl, nT, rfl⟩ := y
    rw [List.getElem?_map, Option.map_eq_some_iff] at hd
    obtain ⟨p, hp1, rfl⟩ := hd
    obtain ⟨k', b', v', h2, h3, h4⟩ := r.get hp1
    rw [h1] at h2
    cases h2
    obtain ⟨x3, g3⟩ := g.newFrz nT (.tup [.ref b, v])
    refine ⟨_, _, x3, g3, .tup upd_same (.cons ((h3.mono (O.sub hp)).mono x3.f) (.cons ((h4.mono (O.sub hp)).mono x3.f) .nil)) (by show 2 ≤ sizeLine; decide)⟩
def iKeysN (m : DE) : DI := fun env => m env >>= fun d => match d with
  | .dcn kvs => .ret (kvs.map (·.1))
  | _ => .fail
def iItemsN (m : DE) : DI := fun env => m env >>= fun d => match d with
  | .dcn kvs => .ret (kvs.map pairD)
  | _ => .fail
theorem qi_keysN {I : IM} (O : IMSub I) {tg l : Expr} (hS : S.pr = X.prog ∧ S.wd = X.w) (hl : QE S X l m) : QI I S X tg l (iKeysN m) :=
  pi_weak (pi_keysN hl) fun σ H R ⟨G, F, env, g, ok, q⟩ => ⟨G, F, env, g, M.wp_mono (M.wpb q) fun d q v G1 F1 H1 e1 g1 r1 => by
    cases d with
    | dcn kvs =>
      cases r1 with
      | dcn h1 h2 h3 =>
        rename_i a o es
        exact ⟨a, o, es, rfl, by rw [← hS.1, ← hS.2]; exact g1.fh _ _ h1, by rw [← hS.1, ← hS.2]; exact q _ G1 F1 H1 e1 g1 (its_keysN O h1 h2) (by rw [List.length_map, h2.len]; exact h3)⟩
    | _ => exact q.elim⟩
theorem qi_itemsN {I : IM} (O : IMSub I) {elts : List Expr} {kk : Nat} {tpos apos cpos : Pos} {l : Expr} (hS : S.pr = X.prog ∧ S.wd = X.w) (hl : QE S X l m) (hbase : attributeBase l "items" X.env (eval l X.env) = eval l X.env := by rfl) (hline : (apos.endLine == cpos.line) = true := by rfl) :
    QI I S X (.Tuple elts kk tpos) (.Call (.Attribute l "items" apos) [] [] cpos) (iItemsN m) :=
  pi_weak (pi_itemsN hl hbase hline) fun σ H R ⟨G, F, env, g, ok, q⟩ => ⟨G, F, env, g, M.wp_mono (M.wpb q) fun d q v G1 F1 H1 e1 g1 r1 => by
    cases d with
    | dcn kvs =>
      cases r1 with
      | dcn h1 h2 h3 =>
        rename_i a o es
        exact ⟨a, o, es, rfl, by rw [← hS.1, ← hS.2]; exact g1.fh _ _ h1, by rw [← hS.1, ← hS.2]; exact q _ G1 F1 H1 e1 g1 (its_itemsN O h1 h2) (by rw [List.length_map, h2.len]; exact h3)⟩
    | _ => exact q.elim⟩
end
end DL

set_option Elab.async false
set_option linter.all false
set_option maxRecDepth 100000
/-! DN4: {k: v} with a nested key; sorted of tuples. -/
namespace DL
open PySem PySem.Spec L2
open PyProof.Rows hiding St
theorem disp_pairsH {prog : Program} {w : World} {K : Type} [DecidableEq K] {knd : HeapKind prog w K} {A : Around} {E : Value → Shared → Prop} {s : Shared} {env : Env} {keys : List (Option Expr)} {values : List Expr} {pos : Pos} {pairs : List (Sem Value × Sem Value)} {Q : Value → Shared → Prop} (hu : knd.room A)
    (hshape : (evalEachOpt keys env).zip ((evalEach values env).map fun v => do let x ← v; standAt pos; pure x) = pairs.map fun p => (some p.1, p.2)) (h0 : pairs ≠ []) (hlen : pairs.length ≤ 15)
    (h : wpAny (model prog w) A (evalPairs pairs) (fun vs s₁ => ∃ ps, CarriesH knd s₁.heap vs ps ∧ s₁.heap.DictOfH knd s.heap.objs.size [] ∧
      ∀ h' tk, h'.DictOfH knd s.heap.objs.size (storedAllH [] ps) → Heap.SameBut s.heap.objs.size s₁.heap h' → Q (.ref s.heap.objs.size) { s₁ with heap := h', toks := tk }) E
      { s with heap := s.heap.push { cls := .type "dict", data := .dict #[] } }) :
    wpAny (model prog w) A (eval (.Dict keys values pos) env) Q E s := by
  rw [arm_eval_Dict, hshape, dictDisplay_pairs pairs h0 (by omega)]
  exact wpAny_bind (wpAny_standAt (wpAny_bind (wpAny_subDictH (knd := knd) (Q := fun d s' => wpAny (model prog w) A (pure (Value.ref d)) Q E s') hu hlen
    (wpAny_mono h (fun vs s₁ h₁ => by obtain ⟨ps, hc, hm, hq⟩ := h₁; exact ⟨ps, hc, hm, fun h' tk a b => wpAny_pure (hq h' tk a b)⟩) fun _ _ e => e))))
def tDispN (P : Program) (w : World) (tk tv : TE) : TE := fun σ H Q => ∀ p, H p = none → tk σ (upd H p (DnO P w p [])) fun x H1 => tv σ H1 fun y H2 => H2 p = some (DnO P w p []) ∧ ∃ b k, x = .ref b ∧ NAt H2 k (.ref b) ∧ k.depth ≤ 8 ∧ Q (.ref p) (upd H2 p (DnO P w p [(k, b, y)]))
section
variable {X : Cx} {pos : Pos} {ek ev : Expr} {tk tv : TE}
theorem pe_dispN (hu : X.A.units + 64 < cLine) (hk : PE X ek tk) (hv : PE X ev tv) : PE X (.Dict [some ek] [ev] pos) (tDispN X.prog X.w tk tv) := by
  refine ⟨fun pins s σ H Q I q => ?_⟩
  have hp := I.hok.fresh (Nat.le_refl s.heap.objs.size)
  have I0 := I.laid (a := s.heap.objs.size) (o := DnO X.prog X.w s.heap.objs.size []) (h' := s.heap.push { cls := .type "dict", data := .dict #[] }) (t' := s.toks) (fun _ _ q => Heap.get?_push_of_some _ q) (Nat.le_refl _) (dn_empty s.heap I.big)
  refine disp_pairsH (knd := nestedKind X.prog X.w) (pairs := [(eval ek X.env, do let x ← eval ev X.env; standAt pos; pure x)]) (show X.A.units + 8 < cLine by omega) rfl (by simp) (by simp) ?_
  refine pairTrees_cons_walk (ks := []) (vs := []) (thn (hk.run pins _ σ _ _ I0 (q _ hp)) fun u s1 ⟨x, H1, I1, rx, q1⟩ => thn (hv.run pins s1 σ H1 _ I1 q1) fun r s2 ⟨y, H2, I2, ry, e2, b, k, ex, nk, k8, q2⟩ => pairTrees_nil_walk ?_)
  subst ex
  obtain rfl : u = Value.ref b := rx
  obtain ⟨z, hd, xs, rel, dd⟩ := dn_rd I2.hok (.inl e2) (fun _ h => absurd h (by simp))
  cases rel
  refine ⟨[(k, b, r)], ⟨rfl, rfl, ⟨nk.is I2.hok rfl, k8⟩, trivial⟩, dd, fun h' tk' dd' hs => ?_⟩
  have dd2 : h'.DictOfH (nestedKind X.prog X.w) s.heap.objs.size [(k, b, r)] := dd'
  obtain ⟨q3, ds, ep, hq, h2, h3, h4, _, h5⟩ := dd2
  exact ⟨.ref s.heap.objs.size, _, d_write I2 (by rw [e2]; exact True.intro) hs ⟨q3, hq⟩ (dn_new (by rw [sizeLine_eq, List.length_singleton]; decide) hd (.cons ⟨rfl, rfl, ry⟩ .nil) ⟨q3, ds, ep, hq, h2, h3, h4, h5⟩), rfl, q2⟩
end
section
variable {S : SA} {X : Cx} {G F G' F' H H' : Hp} {σ : L2.St} {env : DEnv} {d e : D} {v u : V} {p : Addr} {Q : VK} {m mk mv : DE} {ek ev : Expr} {pos : Pos}
def mDispN (mk mv : DE) : DE := fun env => mk env >>= fun k => mv env >>= fun v => if keyOkN k then .ret (.dcn [(k, v)]) else .fail
theorem qdispN (hS : S.pr = X.prog ∧ S.wd = X.w) (hu : X.A.units + 64 < cLine) (hk : QB S X ek mk) (hv : QE S X ev mv) : QF S X (.Dict [some ek] [ev] pos) (mDispN mk mv) :=
  pe_weak (pe_dispN hu hk hv) fun σ H Q ⟨G, F, env, g, q⟩ p hp => by
    rw [← hS.1, ← hS.2]
    obtain ⟨g0, e0⟩ := g.hold hp (DnO S.pr S.wd p [])
    have fp := g.free hp
    have np := g.no hp
    have nfp := g.fg.no np
    refine ⟨_, F, env, g0, M.wp_mono (M.wpb q) fun k q u G1 F1 H1 e1 g1 r1 => ?_⟩
    refine ⟨_, F1, env, g1, M.wp_mono (M.wpb q) fun y q w G2 F2 H2 e2 g2 r2 => ?_⟩
    split at q
    · rename_i hkey
      have e12 := e1.trans e2
      obtain ⟨xs, kk, rfl, hn, h8⟩ := keyOkN_elim hkey
      have r1 := r1.rp g1 rfl
      have G2p : G2 p = some (DnO S.pr S.wd p []) := e12.at_
      have F2p : F2 p = none := e12.atF nfp
      refine ⟨g2.kp _ _ G2p, ?_⟩
      cases r1 with
      | tup f1 f2 f3 =>
        rename_i b0 vs0
        have rt := (Rp.tup (S := S) f1 f2 f3).mono e2.f
        refine ⟨b0, kk, rfl, (rt.nat hn).mono g2.fh, h8, ?_⟩
        have g3 := g2.drop (o' := DnO S.pr S.wd p [(kk, b0, w)]) fp G2p F2p
        exact (show PostF S G F σ env Q _ from q) p _ F2 _ (e12.drop np) g3 (fp.fresh (delH_at _ _) ⟨_, upd_same, .cons rt hn h8 r2 .nil, by rw [sizeLine_eq, List.length_singleton]; decide⟩)
    · exact q.elim
/-! ### sorted(t), t a tuple -/
def rSortedTup (K : PySem.W.Frag) : List V → Hp → VK → Prop := fun vs H Q => ∃ (a : Addr) (ys : List V) (ds : List D), vs = [V.ref a] ∧ SqT K H a ys ∧ DpAll K H ys (D.pyL ds) ∧ srtOk ds = true ∧
  ∀ (ps : List (V × D)) (p : Addr), ps.Perm (ys.zip ds) → ps.map (·.2) = sortD ds → H p = none → Q (.ref p) (upd H p (.lst (ps.map (·.1))))
theorem cr_sortedTup (hu : X.A.units + 64 < cLine) : CallR X (.builtin "sorted") (rSortedTup X.K) := by
  intro pins s σ H vs us Q I r h
  obtain ⟨a, ys, ds, rfl, hs, hdp, ho, q⟩ := h
  rw [Vals.ref1 r]
  obtain ⟨its, rv, ⟨o, ho1, hc1, n, hd1⟩, hz⟩ := I.tuple hs
  have hlen : its.length = ys.length := rv.length.symm
  refine Calls.call_function_entry PyProof.Rows.kind_sorted PyProof.Rows.plain_sorted PyProof.Rows.entry_sorted (PyProof.Rows.args_sorted1 _) ?_
  unfold Builtin.«sorted»
  refine wpAny_bind (m := checkCount "sorted" 1 1 _) (wpAny_pure ?_)
  refine wpAny_bind (wpAny_collect_seq a (.inr rfl) ho1 hc1 hd1 (fun h' hk => ?_) (by rw [List.size_toArray]; omega))
  have eits : its.toArray.toList = its := by simp
  rw [eits]
  have I1 : Inv X pins σ H { s with heap := h' } := I.kept (t' := s.toks) hk
  refine wpAny_bind (wpAny_newList ?_ (by rw [hlen]; exact hz))
  have hoL : (h'.push (seqObj "list" its.toArray 0)).get? h'.objs.size = some (seqObj "list" its.toArray 0) := Heap.get?_push_size _ rfl
  show wpAny _ _ _ _ _ { s with heap := h'.push (seqObj "list" its.toArray 0) }
  have hyl : ys.length = ds.length := by
    have := dpAll_len hdp
    rw [this, D.pyL_map, List.length_map]
  obtain ⟨as, hr⟩ := Dp.readsAll I1 (D.pyL ds) ys its hdp rv
  have er0 := each_fresh (a := h'.objs.size) (by
    cases hg : h'.get? h'.objs.size with
    | none => rfl
    | some ob => exact absurd (Heap.lt_size hg) (Nat.lt_irrefl _)) (each_reads hr hyl)
  have er : PySem.W.EachIs (fun (u : Value) (p : V × D) => ∃ as, Reads (h'.push (seqObj "list" its.toArray 0)) u p.2.py as ∧ h'.objs.size ∉ as) its (ys.zip ds) := er0.mono fun u p ⟨as, r, n⟩ => ⟨as, PyProof.Rows.Reads.keeps (fun _ _ e => Heap.get?_push_of_some _ e) r, n⟩
  have hb := zip_snd ys ds hyl
  have hm : (ys.zip ds).map (fun p : V × D => p.2.py) = ds.map D.py := by
    conv => rhs; rw [← hb]
    rw [List.map_map] <;> rfl
  refine wpAny_bind (wpAny_holding (PySem.W.list_sort_data (s := { s with heap := h'.push (seqObj "list" its.toArray 0) }) (enc := fun p : V × D => p.2.py) (vs := its) hoL (each_zip (K := X.K) rv hyl) er (by rw [hm]; exact srt_alike ho) (by rw [hm]; exact srt_sortable ho)
    (by rw [List.length_zip, hyl, Nat.min_self, ← hyl]; exact hz) (fun b hb' => ?_) fun out e1 e2 => ?_))
  · have : b.2 ∈ ds := by rw [← hb]; exact List.mem_map.mpr ⟨b, hb', rfl⟩
    have h60 := D.dep 60 b.2 (srtOk_pl ho _ this)
    simp only [Around.in1_units]
    omega
  · have hp := List.mergeSort_perm (ys.zip ds) (PySem.W.dataLe false fun p : V × D => p.2.py)
    obtain ⟨ep2, he'⟩ := PyProof.Rows.sortedHeap_at (vs := its) (out := out.toArray) hoL
    have hl2 : (((ys.zip ds).mergeSort (PySem.W.dataLe false fun p : V × D => p.2.py)).map (·.1)).length ≤ sizeLine := by
      rw [List.length_map, hp.length_eq, List.length_zip, hyl, Nat.min_self, ← hyl]; exact hz
    refine wpAny_pure ⟨_, rfl, .ref h'.objs.size, upd H h'.objs.size (.lst (((ys.zip ds).mergeSort (PySem.W.dataLe false fun p : V × D => p.2.py)).map (·.1))), I1.laid (t' := s.toks) (fun b u e => ?_) (Nat.le_refl _) ⟨hl2, out, ep2, each_vals e2, he'⟩, rfl,
      q _ _ hp (srtd_merge ds _ hb ho) (I1.hok.fresh (Nat.le_refl _))⟩
    have hbl : b < h'.objs.size := Heap.lt_size e
    rw [PyProof.Rows.sortedHeap_old (Nat.ne_of_lt hbl) (by rw [size_push']; exact Nat.lt_succ_of_lt hbl)]
    exact Heap.get?_push_of_some _ e
/-- sorted of lists and of tuples -/
def dSortedX : List D → M D
  | [.tup xs] => if srtOk xs then .ret (.lst (sortD xs)) else .fail
  | ds => dSorted ds
theorem c_sortedX (hu : X.A.units + 64 < cLine) : CallF S X (.builtin "sorted") dSortedX := by
  obtain ⟨r0, hr0, k0⟩ := c_sorted (S := S) hu
  refine ⟨fun vs H Q => r0 vs H Q ∨ rSortedTup X.K vs H Q, fun pins s σ H vs us Q I r h => ?_, fun G F σ H env vs ds Q g r q => ?_⟩
  · rcases h with h | h
    · exact hr0 pins s σ H vs us Q I r h
    · exact cr_sortedTup hu pins s σ H vs us Q I r h
  · unfold dSortedX at q
    split at q
    · rename_i xs
      refine .inr ?_
      split at q
      · rename_i ho
        obtain ⟨v, rfl, r1⟩ := rdb1 r
        obtain ⟨p, ys, rfl, f1, h1, l1, z1⟩ := r1.tup g
        have hd : DpAll X.K H ys (D.pyL xs) := by
          have hpl : D.plL 60 xs = true := by
            unfold srtOk at ho; simp only [Bool.and_eq_true] at ho; exact ho.1.1
          exact (RpL.dp (K := X.K) g.fh 60 xs hpl l1).1
        refine ⟨p, ys, xs, rfl, .inl (.of h1), hd, ho, fun ps a hp he hn => ?_⟩
        have hr : RpL S F (sortD xs) (ps.map (·.1)) := by
          rw [← he]
          exact RpL.of_mem fun z hz => l1.zip_mem z (hp.mem_iff.mp hz)
        exact PostF.lst (show PostF S G F σ env Q (.lst (sortD xs)) from q) g hn hr (by rw [List.length_map, hp.length_eq, List.length_zip, l1.len]; omega)
      · exact q.elim
    · exact .inl (k0 G F σ H env vs _ Q g r q)
end
end DL

set_option Elab.async false
set_option linter.all false
set_option maxRecDepth 100000
/-! DN5: two new lists at once. -/
namespace DL
open PySem PySem.Spec L2
open PyProof.Rows hiding St
section
variable {S : SA} {X : Cx} {G F H : Hp} {σ : L2.St} {env : DEnv} {pos : Pos}
/-- a, b = [], [] -/
def mParN (i j : Nat) : DS := fun env => .ret (.nx, (env.set i (some (.own (.lst [])))).set j (some (.own (.lst []))))
theorem qparN (i j : Nat) {x y : Str} {px py pt p1 p2 : Pos} {kt k2 pt2} (hN : X.N.Nodup) (hi : X.N[i]? = some x := by rfl) (hj : X.N[j]? = some y := by rfl) (hij : i ≠ j := by decide)
    (hx : X.env.scope.names.lookup x = some .local := by rfl) (hy : X.env.scope.names.lookup y = some .local := by rfl) (hc : X.calm = true := by rfl)
    (hw : swappedStores [.Tuple [.Name x px, .Name y py] kt pt] (.Tuple [.List [] p1, .List [] p2] k2 pt2) X.env = pure (some [x, y]) := by rfl)
    (hs : swapsWithSole [.Tuple [.Name x px, .Name y py] kt pt] (.Tuple [.List [] p1, .List [] p2] k2 pt2) pos.line X.env = pure false := by rfl) :
    QS S X (.Assign [.Tuple [.Name x px, .Name y py] kt pt] (.Tuple [.List [] p1, .List [] p2] k2 pt2) pos) (mParN i j) :=
  ps_weak (ps_par hc hN hi hj hij hx hy (pa_cons (pe_lst pa_nil) (pa_cons (pe_lst pa_nil) pa_nil)) hw hs) fun D' σ H ⟨G, F, env, g, q⟩ => by
    refine ⟨Nat.zero_le _, fun a ha => ⟨Nat.zero_le _, fun b hb => ?_⟩⟩
    have fa : FreshR S G F σ (upd H a (.lst [])) env a (.lst []) := ⟨g.no ha, (g.stNe ha).1, (g.stNe ha).2, g.ownNe ha, [], upd_same, .nil, Nat.zero_le _⟩
    have g1 := (g.new ha (.lst [])).setOwn (i := i) fa
    have fb : FreshR S G F (σ.set i (some (.ref a))) (upd (upd H a (.lst [])) b (.lst [])) (env.set i (some (.own (.lst [])))) b (.lst []) := ⟨g1.no hb, (g1.stNe hb).1, (g1.stNe hb).2, g1.ownNe hb, [], upd_same, .nil, Nat.zero_le _⟩
    exact ⟨_, _, rfl, q _ G F _ (Ext.refl _ _) ((g1.new hb (.lst [])).setOwn (i := j) fb)⟩
end
end DL

set_option Elab.async false
set_option linter.all false
set_option maxRecDepth 100000
set_option maxHeartbeats 4000000
/-! DS1: set(xs), xs a list of ints. -/
namespace DL
open PySem PySem.Spec L2
open PyProof.Rows hiding St
section
variable {P : Program} {w : World} {A : Around} {E : Value → Shared → Prop} {s : Shared}
theorem set_of_list {l : Addr} {items : Array Value} (ns : List Int) {Q : Value → Shared → Prop} (hh : A.handled = none) (hl : s.heap.IsList l items) (hit : IntsAre items.toList ns) (hb : ns.length + 1 < scanBound)
    (h : ∀ (h' : Heap) (tk c : Nat), SetR w h' s.heap.objs.size (fun j => decide (j ∈ ns)) c → c ≤ ns.length → (∀ b o, s.heap.get? b = some o → h'.get? b = some o) → Q (.ref s.heap.objs.size) { s with heap := h', toks := tk }) :
    wpAny (model P w) A (call (.type "set") [.ref l]) Q E s := by
  have hisz : items.size = ns.length := by
    have q := IntsAre.length hit
    rw [Array.length_toList] at q
    exact q
  obtain ⟨c, tl, hmro⟩ := F.called_set.mro
  have hmade := F.called_set.made
  have hsub := F.called_set.sub
  refine wpAny_call (codeAny_of_tree ?_)
  show wpAny _ _ (callAny (.type "set") _) _ _ _
  refine wpAny_pure ⟨Code.quiet_builtin _ (by decide +kernel), codeAny_builtin F.entry_type_call ?_⟩
  rw [Around.under_plain (weight_type_call_type "set" [.ref l] []) rfl]
  have h1 := F.called_set.notType
  have h2 := F.called_set.canCreate
  have hct := F.typeCall_set_1 (.ref l)
  repeat (any_goals (first | assumption | wp_step))

  refine codeAny_mono (code_set_led1 (.ref l) (E := E) (Q₁ := fun obj s₁ => obj = .ref s.heap.objs.size ∧ s₁ = { s with heap := s.heap.push { cls := .type "set", dict := none, data := .set #[] 0 (.fresh 0 0 (!w.params.followText "set-order")) } }) ⟨rfl, rfl⟩) fun r s₁ hr => ?_
  cases r with
  | error e => exact hr
  | ok fl =>
    cases fl with
    | ret obj =>
      obtain ⟨rfl, rfl⟩ := hr
      have hS : (s.heap.push { cls := .type "set", dict := none, data := .set #[] 0 (.fresh 0 0 (!w.params.followText "set-order")) }).get? s.heap.objs.size = some { cls := .type "set", dict := none, data := .set #[] 0 (.fresh 0 0 (!w.params.followText "set-order")) } := Heap.get?_push_size _ rfl
      have hT : Shared.TypeIs { s with heap := s.heap.push { cls := .type "set", dict := none, data := .set #[] 0 (.fresh 0 0 (!w.params.followText "set-order")) } } (.ref s.heap.objs.size) "set" := ⟨_, hS, rfl⟩
      have hli := F.called_set.init.lookup
      have hbi := F.called_set.init.bind (.ref s.heap.objs.size)
      repeat (any_goals (first | assumption | wp_step))

      refine codeAny_mono (codeAny_call_builtin (R := wants (fun r s₂ => r = .none ∧ ∃ h' tk c, s₂ = { s with heap := h', toks := tk } ∧ SetR w h' s.heap.objs.size (fun j => decide (j ∈ ns)) c ∧ c ≤ ns.length ∧
          (∀ b o, s.heap.get? b = some o → h'.get? b = some o)) E) F.called_set.init.plain F.entry_set_init (check_set_init_1 hT ?_)) fun r₂ s₂ hr₂ => ?_
      · obtain ⟨ol, hol, hcl, nl, hdl⟩ := hl
        obtain ⟨ocls, odict, odata, oslots⟩ := ol
        simp only at hcl hdl
        subst hcl; subst hdl
        have hol' : (s.heap.push { cls := .type "set", dict := none, data := .set #[] 0 (.fresh 0 0 (!w.params.followText "set-order")) }).get? l = some { cls := .type "list", dict := odict, data := .seq items nl, slots := oslots } := Heap.get?_push_of_some _ hol
        have hsls := F.sub_list_set
        have hslf := F.sub_list_frozenset
        have hne : (Value.type "list" == Value.type "dict") = false := by decide
        have hl1 : (s.heap.push { cls := .type "set", dict := none, data := .set #[] 0 (.fresh 0 0 (!w.params.followText "set-order")) }).IsList l items := ⟨_, hol', rfl, nl, rfl⟩
        unfold Builtin.«set.__init__» noKeywords Builtin.Frozenset.updateFrom
        generalize hPI : pyIter = PI
        wp_walk
        subst hPI

        refine wpAny_pyIter_list hl1 ?_
        refine wpAny_bind (wpAny_runValue ?_)
        have hlS : l < s.heap.objs.size := Heap.lt_size hol
        have hh3 : A.in1.in1.in1.handled = none := by simp [hh]
        have hz1 : (s.heap.push { cls := .type "set", dict := none, data := .set #[] 0 (.fresh 0 0 (!w.params.followText "set-order")) }).objs.size = s.heap.objs.size + 1 := Heap.size_push ..
        have hneI : l ≠ (s.heap.push { cls := .type "set", dict := none, data := .set #[] 0 (.fresh 0 0 (!w.params.followText "set-order")) }).objs.size := by
          rw [Heap.size_push]; exact Nat.ne_of_lt (Nat.lt_succ_of_lt hlS)
        have hSf : s.heap.objs.size ∉ [(s.heap.push { cls := .type "set", dict := none, data := .set #[] 0 (.fresh 0 0 (!w.params.followText "set-order")) }).objs.size, l] := by
          rw [Heap.size_push]; simp only [List.mem_cons, List.mem_singleton, List.not_mem_nil, or_false, not_or]
          exact ⟨Nat.ne_of_lt (Nat.lt_succ_self _), Nat.ne_of_gt hlS⟩
        have hval : ∀ (i : Nat) (v : Value), items[i]? = some v → ∃ k t, ns[i]? = some k ∧ v = .int k t := fun i v hv => by
          have hi : i < ns.length := by rw [← hisz]; exact (Array.getElem?_eq_some_iff.mp hv).1
          obtain ⟨t, e⟩ := PyProof.Rows.IntsAre.int_at hit i v (by rw [Array.getElem?_toList]; exact hv)
          refine ⟨ns[i], t, List.getElem?_eq_getElem hi, ?_⟩
          rw [e, List.getD_eq_getElem?_getD, List.getElem?_eq_getElem hi] <;> rfl
        refine set_update_ints ((Walks.list hh3 _ l hneI items).toS) s.heap.objs.size
          hSf ns hisz hb hval (items.size - 0) 0 _ (by omega) (Nat.zero_le _)
          ⟨⟨_, Heap.get?_push_size _ rfl, rfl, rfl⟩, (hl1.push _)⟩ ?hS0 ?hR
        case hS0 =>
          have hget : ((s.heap.push { cls := .type "set", dict := none, data := .set #[] 0 (.fresh 0 0 (!w.params.followText "set-order")) }).push { cls := .type "list_iterator", data := .fields #[.ref l, .int 0 0] }).get? s.heap.objs.size
              = some { cls := .type "set", dict := none, data := .set #[] 0 (.fresh 0 0 (!w.params.followText "set-order")) } := Heap.get?_push_of_some _ hS
          exact ⟨0, Nat.le_refl 0, setR_new_at hget⟩
        case hR =>
          intro s' c' hm hc' hS'
          obtain ⟨h', g2, d', tk', os'⟩ := s'
          have eg : g2 = s.gens := hm.gens
          have ed : d' = s.drawn := hm.drawn
          have eo : os' = s.os := hm.os
          subst eg; subst ed; subst eo
          show wpAny _ _ _ _ _ _
          refine wpAny_pure ?_
          show wpAny _ _ (ret Value.none) _ _ _
          rw [hisz] at hc'
          refine wpAny_pure ⟨rfl, h', tk', c', rfl, hS', hc', fun b o e => ?_⟩
          have hb0 : b < s.heap.objs.size := Heap.lt_size e
          have hb1 : b ≠ s.heap.objs.size := Nat.ne_of_lt hb0
          have hb2 : b ≠ (s.heap.push { cls := .type "set", dict := none, data := .set #[] 0 (.fresh 0 0 (!w.params.followText "set-order")) }).objs.size := by
            rw [Heap.size_push]; exact Nat.ne_of_lt (Nat.lt_succ_of_lt hb0)
          exact hm.heap b o (by simp only [List.mem_cons, List.mem_singleton, List.not_mem_nil, or_false, not_or]; exact ⟨hb1, hb2⟩) (Heap.get?_push_of_some _ (Heap.get?_push_of_some _ e))

      · cases r₂ with
        | error e => exact hr₂
        | ok fl₂ =>
          cases fl₂ with
          | ret r =>
            obtain ⟨rfl, h', tk, c', rfl, hS', hc', hk'⟩ := hr₂
            repeat (any_goals (first | assumption | wp_step))
            exact h _ _ _ hS' hc' hk'
          | _ => exact hr₂.elim
    | _ => exact hr.elim

end
end DL

set_option Elab.async false
set_option linter.all false
set_option maxRecDepth 100000
/-! DS2: sorted(set(xs)) of ints, len(set(xs)) of tuples of ints. -/
namespace DL
open PySem PySem.Spec L2
open PyProof.Rows hiding St
/-! ### what is in it, ascending, once each -/
def insU (x : Int) : List Int → List Int
  | [] => [x]
  | y :: r => if x < y then x :: y :: r else if x = y then y :: r else y :: insU x r
def uniqI : List Int → List Int
  | [] => []
  | x :: xs => insU x (uniqI xs)
theorem insU_mem (x k : Int) : ∀ l : List Int, k ∈ insU x l ↔ k = x ∨ k ∈ l
  | [] => by simp [insU]
  | y :: r => by
    unfold insU
    split
    · simp
    · split
      · rename_i h; subst h; simp
      · rw [List.mem_cons, insU_mem x k r, List.mem_cons]
        constructor
        · rintro (h | h | h) <;> simp [h]
        · rintro (h | h | h) <;> simp [h]
theorem uniqI_mem (k : Int) : ∀ l : List Int, k ∈ uniqI l ↔ k ∈ l
  | [] => by simp [uniqI]
  | x :: xs => by rw [uniqI, insU_mem, uniqI_mem k xs, List.mem_cons]
theorem insU_pw (x : Int) : ∀ l : List Int, l.Pairwise (· < ·) → (insU x l).Pairwise (· < ·)
  | [], _ => by simp [insU]
  | y :: r, h => by
    obtain ⟨h1, h2⟩ := List.pairwise_cons.mp h
    unfold insU
    split
    · rename_i hxy
      refine List.pairwise_cons.mpr ⟨fun z hz => ?_, h⟩
      rcases List.mem_cons.mp hz with rfl | hz
      · exact hxy
      · exact Int.lt_trans hxy (h1 z hz)
    · split
      · exact h
      · rename_i n1 n2
        refine List.pairwise_cons.mpr ⟨fun z hz => ?_, insU_pw x r h2⟩
        rcases (insU_mem x z r).mp hz with rfl | hz
        · omega
        · exact h1 z hz
theorem uniqI_pw : ∀ l : List Int, (uniqI l).Pairwise (· < ·)
  | [] => .nil
  | x :: xs => insU_pw x _ (uniqI_pw xs)
theorem pw_unique : ∀ {l m : List Int}, l.Pairwise (· < ·) → m.Pairwise (· < ·) → (∀ k, k ∈ l ↔ k ∈ m) → l = m
  | [], [], _, _, _ => rfl
  | [], y :: m, _, _, h => absurd ((h y).mpr List.mem_cons_self) (by simp)
  | x :: l, [], _, _, h => absurd ((h x).mp List.mem_cons_self) (by simp)
  | x :: l, y :: m, h1, h2, h => by
    obtain ⟨a1, a2⟩ := List.pairwise_cons.mp h1
    obtain ⟨b1, b2⟩ := List.pairwise_cons.mp h2
    have e : x = y := by
      rcases List.mem_cons.mp ((h x).mp List.mem_cons_self) with e | e
      · exact e
      · rcases List.mem_cons.mp ((h y).mpr List.mem_cons_self) with e2 | e2
        · exact e2.symm
        · have := b1 x e; have := a1 y e2; omega
    subst e
    rw [pw_unique a2 b2 fun k => ?_]
    constructor
    · intro hk
      rcases List.mem_cons.mp ((h k).mp (List.mem_cons_of_mem _ hk)) with e | e
      · have := a1 k hk; omega
      · exact e
    · intro hk
      rcases List.mem_cons.mp ((h k).mpr (List.mem_cons_of_mem _ hk)) with e | e
      · have := b1 k hk; omega
      · exact e
def tSortedSetI (K : PySem.W.Frag) (ta : TE) : TE := fun σ H Q => ta σ H fun x H1 => ∃ (l : Addr) (ns : List Int), x = V.ref l ∧ SqL K H1 l (ns.map V.int) ∧ (ns.length < 4000 ∧ (uniqI ns).length < 64) ∧ ∀ p, H1 p = none → Q (.ref p) (upd H1 p (.lst ((uniqI ns).map V.int)))
section
variable {X : Cx}
theorem pe_sortedSetI {a : Expr} {ta : TE} {p p2 q pos : Pos} (hc : X.calm = true) (hg : Gl X "sorted") (hm : X.mg "sorted" = none) (hg2 : Gl X "set") (hm2 : X.mg "set" = none) (ha : PE X a ta)
    (na : starEach [a] X.env = (false, eval a X.env) :: starEach [] X.env := by rfl) : PE X (.Call (.Name "sorted" p) [.Call (.Name "set" p2) [a] [] q] [] pos) (tSortedSetI X.K ta) := by
  refine ⟨fun pins s σ H Q I h => ?_⟩
  refine Call_ (ld_blt I hg hm PyProof.Rows.boot_sorted ?_)
  refine PyProof.Rows.callWith_builtin1 (PyProof.Rows.args_cons ?_ rfl) rfl rfl
  refine Call_ (ld_blt I hg2 hm2 PyProof.Rows.boot_set ?_)
  refine PyProof.Rows.callWith_type1 (PyProof.Rows.args_cons (thn (ha.run pins s σ H _ I h) fun v s1 ⟨x, H1, I1, r1, q1⟩ => PyProof.Rows.args_nil ?_) na) na rfl
  obtain ⟨l, ns, rfl, hq, h64, q1⟩ := q1
  cases r1
  obtain ⟨its, r, pl, hz⟩ := I1.list hq
  refine set_of_list (P := X.prog) (w := X.w) ns (I1.ok.hd hc) pl.isList (by simpa using ints_of_vals r) (by unfold scanBound; omega) fun h' tk c R hcn k => ?_
  refine PyProof.Rows.args_nil ?_
  have I2 : Inv X pins σ H1 { s1 with heap := h', toks := tk } := I1.kept k
  have hcu : c = (uniqI ns).length := by
    obtain ⟨o, es, ep, t, _, _, _, _, nd, hm, _, _, hn, _, _⟩ := R
    have nd2 : (uniqI ns).Nodup := (uniqI_pw ns).imp fun h => by omega
    have pm : (es.toList.map keyOf).Perm (uniqI ns) := (List.perm_ext_iff_of_nodup nd nd2).mpr fun a => by
      rw [← hm a, decide_eq_true_eq, uniqI_mem]
    have := pm.length_eq
    rw [List.length_map, Array.length_toList] at this
    omega
  refine sorted_set (w := X.w) (s := { s1 with heap := h', toks := tk }) R (I1.ok.hd hc) (by omega) fun s' p out c2 ms k2 g o hp hgp hi hs hmm hl => ?_
  have e : ms = uniqI ns := pw_unique hs (uniqI_pw ns) fun j => by rw [hmm j, uniqI_mem, decide_eq_true_eq]
  subst e
  have hlen : ((uniqI ns).map V.int).length ≤ sizeLine := by rw [List.length_map, hl, sizeLine_eq]; omega
  have hn : H1 p = none := I2.hok.fresh hp
  have J : Inv X pins σ (upd H1 p (.lst ((uniqI ns).map V.int))) { s1 with heap := s'.heap, gens := s'.gens, drawn := s'.drawn, toks := s'.toks } :=
    Inv.call (s := { s1 with heap := h', toks := tk }) I2 (ch := []) (Un.laid k2 hp hn) (I2.hok.laid k2 hp ⟨hlen, out.toList, c2, vals_of_ints hi, hgp⟩) (by rw [g]; exact I2.bare) (fun _ z => nomatch z)
  have e2 : s' = { s1 with heap := s'.heap, gens := s'.gens, drawn := s'.drawn, toks := s'.toks } := by
    cases s'
    cases s1
    cases o
    rfl
  rw [e2]
  exact ⟨.ref p, _, J, rfl, q1 p hn⟩
/-! ### how many there are -/
def dedupT : List (List Int) → List (List Int)
  | [] => []
  | x :: xs => if x ∈ xs then dedupT xs else x :: dedupT xs
theorem dedupT_mem (a : List Int) : ∀ l : List (List Int), a ∈ dedupT l ↔ a ∈ l
  | [] => by simp [dedupT]
  | x :: xs => by
    unfold dedupT
    split
    · rename_i h
      rw [dedupT_mem a xs, List.mem_cons]
      constructor
      · exact .inr
      · rintro (rfl | h2)
        · exact h
        · exact h2
    · rw [List.mem_cons, dedupT_mem a xs, List.mem_cons]
theorem dedupT_nd : ∀ l : List (List Int), (dedupT l).Nodup
  | [] => .nil
  | x :: xs => by
    unfold dedupT
    split
    · exact dedupT_nd xs
    · rename_i h
      exact List.nodup_cons.mpr ⟨fun z => h ((dedupT_mem x xs).mp z), dedupT_nd xs⟩
def tLenSetT (K : PySem.W.Frag) (ta : TE) : TE := fun σ H Q => ta σ H fun x H1 => ∃ (l : Addr) (ks : List (Addr × List Int)), x = V.ref l ∧ SqL K H1 l (ks.map fun p => V.ref p.1) ∧ (∀ p ∈ ks, SqT K H1 p.1 (p.2.map V.int)) ∧ ks.length < 64 ∧ Q (.int (dedupT (ks.map (·.2))).length) H1
theorem pe_lenSetT {a : Expr} {ta : TE} {p p2 q pos : Pos} (hc : X.calm = true) (hu : X.A.units + 64 < cLine) (hg : Gl X "len") (hm : X.mg "len" = none) (hg2 : Gl X "set") (hm2 : X.mg "set" = none) (ha : PE X a ta)
    (na : starEach [a] X.env = (false, eval a X.env) :: starEach [] X.env := by rfl) : PE X (.Call (.Name "len" p) [.Call (.Name "set" p2) [a] [] q] [] pos) (tLenSetT X.K ta) := by
  refine ⟨fun pins s σ H Q I h => ?_⟩
  refine Call_ (ld_blt I hg hm PySem.boot_len ?_)
  refine PyProof.Rows.callWith_builtin1 (PyProof.Rows.args_cons ?_ rfl) rfl rfl
  refine Call_ (ld_blt I hg2 hm2 PyProof.Rows.boot_set ?_)
  refine PyProof.Rows.callWith_type1 (PyProof.Rows.args_cons (thn (ha.run pins s σ H _ I h) fun v s1 ⟨x, H1, I1, r1, q1⟩ => PyProof.Rows.args_nil ?_) na) na rfl
  obtain ⟨l, ks, rfl, hq, hk, h64, q1⟩ := q1
  cases r1
  obtain ⟨its, rv, pl, hz⟩ := I1.list hq
  refine call_set_tups (P := X.prog) (w := X.w) ks (I1.ok.hd hc) pl.isList (by simpa using refs_of_vals rv) (fun p hp => I1.isT (hk p hp)) h64 (by omega) fun h' tk L es ep t R g k => ?_
  refine PyProof.Rows.args_nil ?_
  have I2 : Inv X pins σ H1 { s1 with heap := h', toks := tk } := I1.kept k
  obtain ⟨o, ho, hex, hd⟩ := R.ob
  have hsz := SetTR.size (s := { s1 with heap := h', toks := tk }) R
  have e : L.length = (dedupT (ks.map (·.2))).length := by
    have pm : (L.map (·.2)).Perm (dedupT (ks.map (·.2))) := (List.perm_ext_iff_of_nodup R.nd (dedupT_nd _)).mpr fun a => by
      rw [dedupT_mem]
      constructor
      · intro h
        obtain ⟨p, hp, rfl⟩ := List.mem_map.mp h
        exact List.mem_map.mpr ⟨p, List.mem_of_mem_take (g.sub p hp), rfl⟩
      · intro h
        obtain ⟨p, hp, rfl⟩ := List.mem_map.mp h
        exact g.all p (by rw [List.take_length]; exact hp)
    have := pm.length_eq
    rwa [List.length_map] at this
  have hf := R.few
  refine call_len_set ho hex hd (SetTR.fits (s := { s1 with heap := h', toks := tk }) R) (by rw [hsz]; omega) ⟨.int (dedupT (ks.map (·.2))).length, H1, I2.tok _, ⟨_, by rw [hsz, e]⟩, q1⟩
end
/-! ### by trees -/
section
variable {S : SA} {X : Cx} {G F G' F' H H' : Hp} {σ : L2.St} {env : DEnv} {d e : D} {v u : V} {p : Addr} {Q : VK} {m mk mv : DE} {a : Expr} {p1 p2 p3 pos : Pos}
def mSortSet (m : DE) : DE := fun env => m env >>= fun d => match d with
  | .lst xs => M.opt (intsOf xs) >>= fun ns => if ns.length < 4000 ∧ (uniqI ns).length < 64 then .ret (.lst ((uniqI ns).map D.int)) else .fail
  | _ => .fail
theorem rpl_ints (ns : List Int) : RpL S F (ns.map D.int) (ns.map V.int) := by
  induction ns with
  | nil => exact .nil
  | cons n ns ih => exact .cons (.int n) ih
theorem insU_len (x : Int) : ∀ l : List Int, (insU x l).length ≤ l.length + 1
  | [] => by simp [insU]
  | y :: r => by
    unfold insU
    split
    · simp
    · split
      · simp
      · have := insU_len x r; simp; omega
theorem uniqI_len : ∀ l : List Int, (uniqI l).length ≤ l.length
  | [] => by simp [uniqI]
  | x :: xs => by have h1 := insU_len x (uniqI xs); have h2 := uniqI_len xs; simp only [uniqI, List.length_cons]; omega
theorem qsortSet (hc : X.calm = true) (hg : Gl X "sorted") (hm : X.mg "sorted" = none) (hg2 : Gl X "set") (hm2 : X.mg "set" = none) (ha : QB S X a m) (na : starEach [a] X.env = (false, eval a X.env) :: starEach [] X.env := by rfl) :
    QF S X (.Call (.Name "sorted" p1) [.Call (.Name "set" p2) [a] [] p3] [] pos) (mSortSet m) :=
  pe_weak (pe_sortedSetI hc hg hm hg2 hm2 ha na) fun σ H Q ⟨G, F, env, g, q⟩ => ⟨G, F, env, g, M.wp_mono (M.wpb q) fun d q v G1 F1 H1 e1 g1 r1 => by
    cases d with
    | lst xs =>
      obtain ⟨l, vs, rfl, h1, l1, z1⟩ := r1.lst g1
      obtain ⟨ns, hn, q⟩ := M.wp_opt (M.wpb q)
      split at q
      · rename_i h64
        have ev := ints_rpl hn l1
        subst ev
        refine ⟨l, ns, rfl, .inl (.of h1), h64, fun t ht => ?_⟩
        exact (postF_shift e1 (show PostF S G F σ env Q _ from q)).lst g1 ht (rpl_ints (uniqI ns)) (by rw [List.length_map, sizeLine_eq]; have := uniqI_len ns; omega)
      · exact q.elim
    | _ => exact q.elim⟩
def tupsOf : List D → Option (List (List Int))
  | [] => some []
  | .tup ys :: r => match intsOf ys, tupsOf r with
    | some y, some ys' => some (y :: ys')
    | _, _ => none
  | _ :: _ => none
theorem tups_rpl : ∀ {xs : List D} {rows : List (List Int)} {vs : List V}, tupsOf xs = some rows → RpL S F xs vs → ∃ ks : List (Addr × List Int), vs = ks.map (fun p => V.ref p.1) ∧ rows = ks.map (·.2) ∧ ∀ p ∈ ks, F p.1 = some (.tup (p.2.map V.int))
  | [], rows, vs, h, r => by
    cases r
    have h : some [] = some rows := h
    cases h
    exact ⟨[], rfl, rfl, fun p hp => absurd hp (by simp)⟩
  | x :: xs, rows, vs, h, r => by
    cases r with
    | cons r t =>
      cases x with
      | tup ys =>
        rw [tupsOf] at h
        split at h
        · rename_i y ys' h1 h2
          cases h
          cases r with
          | tup f1 f2 f3 =>
            rename_i b ws
            have ev := ints_rpl h1 f2
            subst ev
            obtain ⟨ks, e1, e2, e3⟩ := tups_rpl h2 t
            refine ⟨(b, y) :: ks, by rw [e1]; rfl, by rw [e2]; rfl, fun p hp => ?_⟩
            rcases List.mem_cons.mp hp with rfl | hp
            · exact f1
            · exact e3 p hp
        · cases h
      | _ => cases h
def mLenSet (m : DE) : DE := fun env => m env >>= fun d => match d with
  | .lst xs => M.opt (tupsOf xs) >>= fun rows => if rows.length < 64 then .ret (.int (dedupT rows).length) else .fail
  | _ => .fail
theorem qlenSet (hc : X.calm = true) (hu : X.A.units + 64 < cLine) (hg : Gl X "len") (hm : X.mg "len" = none) (hg2 : Gl X "set") (hm2 : X.mg "set" = none) (ha : QB S X a m) (na : starEach [a] X.env = (false, eval a X.env) :: starEach [] X.env := by rfl) :
    QE S X (.Call (.Name "len" p1) [.Call (.Name "set" p2) [a] [] p3] [] pos) (mLenSet m) :=
  pe_weak (pe_lenSetT hc hu hg hm hg2 hm2 ha na) fun σ H Q ⟨G, F, env, g, q⟩ => ⟨G, F, env, g, M.wp_mono (M.wpb q) fun d q v G1 F1 H1 e1 g1 r1 => by
    cases d with
    | lst xs =>
      obtain ⟨l, vs, rfl, h1, l1, z1⟩ := r1.lst g1
      obtain ⟨rows, hn, q⟩ := M.wp_opt (M.wpb q)
      split at q
      · rename_i h64
        obtain ⟨ks, rfl, rfl, e3⟩ := tups_rpl hn l1
        refine ⟨l, ks, rfl, .inl (.of h1), fun p hp => .inl (.of (g1.fh _ _ (e3 p hp))), by simpa using h64, ?_⟩
        exact (post_shift e1 (show Post S G F σ env Q _ from q)).now g1 (.int _)
      · exact q.elim
    | _ => exact q.elim⟩
end
end DL

set_option Elab.async false
set_option linter.all false
set_option maxRecDepth 100000
/-! DS3: zip of lists, of tuples. -/
namespace DL
open PySem PySem.Spec L2
open PyProof.Rows hiding St
open RZ (ItzT pi_zipA)
section
variable {S : SA} {X : Cx} {G F G' F' H H' : Hp} {σ : L2.St} {env : DEnv} {a b : Expr} {ma mb : DE} {pp pos : Pos}
theorem its_zipT {I : IM} (O : IMOk I) {K : PySem.W.Frag} {xs ys : List D} {a b : Addr} (ok : I.ok env = true) (r : I.rd S F' σ env (.tup xs) (.ref a)) (r' : I.rd S F' σ env (.tup ys) (.ref b)) : ItsD S (ItzT K a b) (I.P F' σ env) (zipD xs ys) where
  go := fun i G2 F2 σ2 H2 env2 hp g hi => by
    obtain ⟨p, vs, e, _, h1, l1, _⟩ := (O.toB (O.keep ok hp r)).tup g
    cases e
    obtain ⟨p', us, e, _, h2, l2, _⟩ := (O.toB (O.keep ok hp r')).tup g
    cases e
    rw [zipD_len, l1.len, l2.len] at hi
    have i1 : i < vs.length := by omega
    have i2 : i < us.length := by omega
    exact ⟨vs, us, vs[i], us[i], .inl (.of h1), .inl (.of h2), by simp [i1], by simp [i2]⟩
  stop := fun i G2 F2 σ2 H2 env2 hp g hi => by
    obtain ⟨p, vs, e, _, h1, l1, _⟩ := (O.toB (O.keep ok hp r)).tup g
    cases e
    obtain ⟨p', us, e, _, h2, l2, _⟩ := (O.toB (O.keep ok hp r')).tup g
    cases e
    rw [zipD_len, l1.len, l2.len] at hi
    exact ⟨vs, us, .inl (.of h1), .inl (.of h2), by omega⟩
  yld := fun i G2 F2 σ2 H2 env2 x H3 d hp g hd y => by
    obtain ⟨p, vs, e, _, h1, l1, _⟩ := (O.toB (O.keep ok hp r)).tup g
    cases e
    obtain ⟨p', us, e, _, h2, l2, _⟩ := (O.toB (O.keep ok hp r')).tup g
    cases e
    obtain ⟨T, y1, y2, rfl, nT, rfl, f1, f2⟩ := y
    obtain ⟨d1, d2, hd1, hd2, rfl⟩ := zipD_get xs ys i d hd
    obtain ⟨v1, hv1, rv1⟩ := l1.get hd1
    obtain ⟨v2, hv2, rv2⟩ := l2.get hd2
    have e1 := f1 vs (.inl (.of h1))
    have e2 := f2 us (.inl (.of h2))
    rw [hv1] at e1
    rw [hv2] at e2
    cases e1
    cases e2
    obtain ⟨x3, g3⟩ := g.newFrz nT (.tup [y1, y2])
    exact ⟨_, _, x3, g3, .tup upd_same (.cons (rv1.mono x3.f) (.cons (rv2.mono x3.f) .nil)) (by show 2 ≤ sizeLine; decide)⟩
def iZipX (m m' : DE) : DI := fun env => m env >>= fun x => m' env >>= fun y => match x, y with
  | .lst xs, .lst ys => .ret (zipD xs ys)
  | .tup xs, .tup ys => .ret (zipD xs ys)
  | _, _ => .fail
theorem qi_zipX {I : IM} (O : IMOk I) (O2 : ∀ {S : SA} {F F2 : Hp} {σ : L2.St} {env : DEnv} {d : D} {v : V}, Sub F F2 → I.rd S F σ env d v → I.rd S F2 σ env d v) {tpos : Pos} {elts : List Expr} {kk : Nat} (hg : Gl X "zip") (hm : X.mg "zip" = none) (ha : QX I S X a ma) (hb : QX I S X b mb)
    (n1 : starEach [a, b] X.env = (false, eval a X.env) :: starEach [b] X.env := by rfl) (n2 : starEach [b] X.env = (false, eval b X.env) :: starEach [] X.env := by rfl) (hpl : (backTo pos (starEach [b] X.env)).any (·.1) = false := by rfl) :
    QI I S X (.Tuple elts kk tpos) (.Call (.Name "zip" pp) [a, b] [] pos) (iZipX ma mb) :=
  pi_weak (pi_zipA hg hm (pa_cons ha (pa_cons hb pa_nil n2) n1) n1 hpl) fun σ H R ⟨G, F, env, g, ok, q⟩ => ⟨G, F, env, g, M.wp_mono (M.wpb q) fun d q v G1 F1 H1 e1 g1 r1 => ⟨G1, F1, env, g1, M.wp_mono (M.wpb q) fun d2 q v2 G2 F2 H2 e2 g2 r2 => by
    cases d with
    | lst xs =>
      cases d2 with
      | lst ys =>
        have r1 := O2 e2.f r1
        obtain ⟨p, vs, rfl, h1, l1, z1⟩ := (O.toB r1).lst g2
        obtain ⟨p', us, rfl, h2, l2, z2⟩ := (O.toB r2).lst g2
        exact ⟨p, p', vs, us, rfl, .inl ⟨.of h1, .of h2, q _ G2 F2 H2 (e1.trans e2) g2 (its_zip O ok r1 r2) (by rw [zipD_len, l1.len, l2.len]; omega)⟩⟩
      | _ => exact q.elim
    | tup xs =>
      cases d2 with
      | tup ys =>
        have r1 := O2 e2.f r1
        obtain ⟨p, vs, rfl, _, h1, l1, z1⟩ := (O.toB r1).tup g2
        obtain ⟨p', us, rfl, _, h2, l2, z2⟩ := (O.toB r2).tup g2
        exact ⟨p, p', vs, us, rfl, .inr ⟨.inl (.of h1), .inl (.of h2), q _ G2 F2 H2 (e1.trans e2) g2 (its_zipT O ok r1 r2) (by rw [zipD_len, l1.len, l2.len]; omega)⟩⟩
      | _ => exact q.elim
    | _ => exact q.elim⟩⟩
end
end DL

set_option Elab.async false
set_option linter.all false
set_option maxRecDepth 100000
set_option maxHeartbeats 4000000
/-! DS4: sets of texts made of a list: set(xs), sorted(set(xs)). -/
namespace DL
open PySem PySem.Spec L2
open PyProof.Rows hiding St
theorem strs_get : ∀ {us : List Value} {xs : List Str}, StrsAre us xs → ∀ (i : Nat) (v : Value), us[i]? = some v → ∃ k t, xs[i]? = some k ∧ v = .str k t
  | _, _, .nil, i, v, h => by cases i <;> cases h
  | _, _, .cons n t r, 0, v, h => ⟨n, t, rfl, (Option.some.inj h).symm⟩
  | _, _, .cons n t r, i + 1, v, h => strs_get r i v h
/-! ### a set that holds just some texts, and can be walked -/
structure SxOk (P : Program) (w : World) (D : PySem.Froz.SD) (l : List Str) : Prop where
  tx : PySem.Froz.TxOk P w D l
  ris : Ris D.2.2.place.toList
  led : w.params.followText "set-order" = true ∨ D.2.2.led = true
section
variable {P : Program} {w : World} {A : Around} {E : Value → Shared → Prop} {s : Shared} {a : Addr}
theorem sx_tail {ep : Nat} {es1 : Array (Int × Value)} {t2 : SetTable} {wd : Bool} (r : Ris t2.place.toList) (l : w.params.followText "set-order" = true ∨ t2.led = true) :
    Ris (PySem.Froz.tailTx ep es1 t2 wd).2.2.place.toList ∧ (w.params.followText "set-order" = true ∨ (PySem.Froz.tailTx ep es1 t2 wd).2.2.led = true) := by
  unfold PySem.Froz.tailTx
  split
  · exact ⟨relayAll_ris t2 es1 _, l.imp id fun z => (relayAll_led t2 es1 _).trans z⟩
  · exact ⟨r, l⟩
theorem sx_add {D : PySem.Froz.SD} {l : List Str} {k : Str} (u : Tok) (F : SxOk P w D l) : SxOk P w (PySem.Froz.addTx (hashStr w k) (.str k u) D) (k :: l) := by
  have r1 := layNew_ris D.2.2 D.1 (hashStr w k) (.str k u) F.ris
  have l1 := layNew_led D.2.2 D.1 (hashStr w k) (.str k u)
  have q := sx_tail (w := w) (ep := D.2.1) (es1 := (layNew D.2.2 D.1 (hashStr w k) (.str k u)).1) (t2 := if (layNew D.2.2 D.1 (hashStr w k) (.str k u)).2.1.plain = true then { (layNew D.2.2 D.1 (hashStr w k) (.str k u)).2.1 with plain := false } else (layNew D.2.2 D.1 (hashStr w k) (.str k u)).2.1) (wd := (layNew D.2.2 D.1 (hashStr w k) (.str k u)).2.2.1) (by
    split
    · exact r1
    · exact r1) (F.led.imp id fun z => by
    split
    · exact l1.trans z
    · exact l1.trans z)
  exact ⟨PySem.Froz.add_ok u F.tx, q.1, q.2⟩
theorem sx_old {T : String} {D : PySem.Froz.SD} {l : List Str} {k : Str} {u : Tok} {Q : Bool → Shared → Prop} (ho : s.heap.get? a = some (PySem.Froz.sObj T D)) (F : SxOk P w D l) (hk : k ∈ l) (hb : l.length < scanBound) (h : Q false s) :
    wpAny (model P w) A (setAddHashed a (.str k u) (hashStr w k)) Q E s := by
  obtain ⟨es, ep, t⟩ := D
  have hd : (PySem.Froz.sObj T (es, ep, t)).data = .set es ep t := rfl
  have hf : t.fits es.size = true := F.tx.fit
  have hel : ElemsOf (strKind P w) es.toList := F.tx.el
  have hsz : es.size = l.length := F.tx.sz
  have hb0 : es.size < scanBound := by omega
  have hkey : (strKind P w).is k (.str k u) = true := PySem.Froz.is_str k u
  have hsome : ∃ j, List.findIdx? (fun e => (strKind P w).is k e.2) es.toList = some j := by
    obtain ⟨e, he, q⟩ := (F.tx.mem k).mp hk
    cases hr : List.findIdx? (fun e => (strKind P w).is k e.2) es.toList with
    | some j => exact ⟨j, rfl⟩
    | none =>
      have := List.findIdx?_eq_none_iff.mp hr e he
      rw [q] at this
      cases this
  obtain ⟨j, hj⟩ := hsome
  unfold setAddHashed setAddHashedIn
  refine wpAny_holding (wpAny_bind (wpAny_setState_of ho hd hf ?_))
  dsimp only
  rw [byScan_of rfl hb0 hel]
  simp only [↓reduceIte]
  unfold setAddByScan
  refine wpAny_bind (wpAny_bind (wpAny_rule ?_))
  refine wpAny_bind (wpAny_setScan_of (knd := strKind P w) (k := k) hkey ho hd hf hel ?_)
  rw [hj]
  dsimp only
  exact wpAny_pure (wpAny_pure h)
/-- what is in it behind so many items -/
structure SxAt (P : Program) (w : World) (h : Heap) (a : Addr) (xs : List Str) : Prop where
  ex : ∃ D l, h.get? a = some (PySem.Froz.sObj "set" D) ∧ SxOk P w D l ∧ l.Nodup ∧ (∀ x, x ∈ l ↔ x ∈ xs) ∧ l.length ≤ xs.length
theorem SxAt.at {h h' : Heap} {xs : List Str} (S : SxAt P w h a xs) (k : ∀ o, h.get? a = some o → h'.get? a = some o) : SxAt P w h' a xs := by
  obtain ⟨D, l, h1, r⟩ := S.ex
  exact ⟨D, l, k _ h1, r⟩
theorem sx_loop {I : Addr} {fp wr : List Addr} {G : Array GenState → Array GenState → Prop} {n : Nat} {Pv : Nat → Value → Prop} {St : Nat → Shared → Prop} {R : Result → Shared → Prop}
    (W : WalksS P w A.in1 I fp wr G n Pv St) (Z : Addr) (hZ : Z ∉ fp) (xs : List Str) (hn : n = xs.length) (hb : xs.length + 1 < scanBound) (hval : ∀ i v, Pv i v → ∃ k t, xs[i]? = some k ∧ v = .str k t) :
    ∀ (k i : Nat) (s : Shared), n - i = k → i ≤ n → St i s → SxAt P w s.heap Z (xs.take i) →
      (∀ s', Moved (Z :: wr) G s s' → SxAt P w s'.heap Z xs → R (.ok (.ret .none)) s') →
      codeAny (model P w) A (.builtin "set.update.loop" ⟨[.ref Z, .ref I], []⟩) R s := by
  have hZw : Z ∉ wr := fun h => hZ (W.sub _ h)
  have sub : ∀ b ∈ wr, b ∈ Z :: wr := fun b hb => List.mem_cons_of_mem _ hb
  intro k
  induction k with
  | zero =>
    intro i s hk hi hst hS hR
    have hin : i = n := by omega
    subst hin
    refine codeAny_builtin F.entry_set_update_loop ?_
    rw [Around.under_plainId F.plain_set_update_loop _]
    show wpAny _ A.in1 (pyNext (.ref I) >>= _) _ _ s
    refine wpAny_bind (W.done s _ _ hst fun s' hm => ?_)
    show wpAny _ A.in1 (ret Value.none) _ _ s'
    rw [List.take_of_length_le (by omega)] at hS
    exact wpAny_pure (hR s' (hm.mono sub) (hS.at fun o e => hm.heap Z o hZw e))
  | succ k ih =>
    intro i s hk hi hst hS hR
    refine codeAny_builtin F.entry_set_update_loop ?_
    rw [Around.under_plainId F.plain_set_update_loop _]
    show wpAny _ A.in1 (pyNext (.ref I) >>= _) _ _ s
    refine wpAny_bind (W.item i s _ _ (by omega) hst fun v s' hP hst' hm => ?_)
    obtain ⟨z, t, hz, rfl⟩ := hval i v hP
    have hS1 := hS.at fun o e => hm.heap Z o hZw e
    obtain ⟨D, l, ho, F, nd, mem, len⟩ := hS1.ex
    have et : ∀ x, x ∈ xs.take (i + 1) ↔ x ∈ xs.take i ∨ x = z := fun x => by
      rw [List.take_add_one, hz, List.mem_append]
      simp
    have el : (xs.take i).length = i := by rw [List.length_take]; omega
    have el2 : (xs.take (i + 1)).length = i + 1 := by rw [List.length_take]; omega
    show wpAny _ A.in1 (holding [Value.str z t] (setAdd Z (.str z t)) >>= _) _ _ s'
    refine wpAny_bind (wpAny_holding ?_)
    unfold setAdd
    refine wpAny_holding ?_
    refine wpAny_bind ((strKind P w).pyHash (k := z) (PySem.Froz.is_str z t) ?_)
    by_cases hzl : z ∈ l
    · refine sx_old (s := { s' with toks := s'.toks + 1 }) (D := D) (l := l) ho F hzl (by omega) ?_
      refine wpAny_pure ⟨plainId_quiet PyProof.Rows.F.plain_set_update_loop _, ih (i + 1) _ (by omega) (by omega) (W.frame _ s' _ _ hst' (Nat.le_succ _) fun b hb o e => e) ⟨D, l, ho, F, nd, fun x => ?_, by omega⟩ fun s'' hm2 hS2 => ?_⟩
      · rw [et, mem]
        constructor
        · exact .inl
        · rintro (h | rfl)
          · exact h
          · exact (mem _).mp hzl
      · exact hR s'' (Moved.trans W.gtrans ((hm.mono sub).then_heap (Nat.le_succ _) fun b o hb e => e) hm2) hS2
    · refine PySem.Froz.add_x (s := { s' with toks := s'.toks + 1 }) (D := D) (l := l) ho F.tx hzl (by omega) ?_
      have hlt := Heap.lt_size ho
      refine wpAny_pure ⟨plainId_quiet PyProof.Rows.F.plain_set_update_loop _, ih (i + 1) _ (by omega) (by omega) (W.frame _ s' _ _ hst' (by simp) fun b hb o e => ?_) ⟨_, z :: l, PySem.Froz.get_upd _ ho rfl, sx_add t F, List.nodup_cons.mpr ⟨hzl, nd⟩, fun x => ?_, by rw [List.length_cons]; omega⟩ fun s'' hm2 hS2 => ?_⟩
      · rw [Heap.get?_update_other _ _ (fun h : Z = b => hZ (by rw [h]; exact hb))]; exact e
      · rw [et, List.mem_cons, mem]
        exact Or.comm
      · refine hR s'' (Moved.trans W.gtrans ((hm.mono sub).then_heap (by simp) fun b o hb e => ?_) hm2) hS2
        rw [Heap.get?_update_other _ _ (fun h : Z = b => hb (by rw [← h]; exact List.mem_cons_self))]; exact e
theorem set_of_listS {l : Addr} {items : Array Value} (ns : List Str) {Q : Value → Shared → Prop} (hh : A.handled = none) (hl : s.heap.IsList l items) (hit : StrsAre items.toList ns) (hb : ns.length + 1 < scanBound)
    (h : ∀ (h' : Heap) (tk : Nat), SxAt P w h' s.heap.objs.size ns → (∀ b o, s.heap.get? b = some o → h'.get? b = some o) → Q (.ref s.heap.objs.size) { s with heap := h', toks := tk }) :
    wpAny (model P w) A (call (.type "set") [.ref l]) Q E s := by
  have hisz : items.size = ns.length := by
    have q := PyProof.Rows.StrsAre.length hit
    rw [Array.length_toList] at q
    exact q
  obtain ⟨c, tl, hmro⟩ := F.called_set.mro
  have hmade := F.called_set.made
  have hsub := F.called_set.sub
  refine wpAny_call (codeAny_of_tree ?_)
  show wpAny _ _ (callAny (.type "set") _) _ _ _
  refine wpAny_pure ⟨Code.quiet_builtin _ (by decide +kernel), codeAny_builtin F.entry_type_call ?_⟩
  rw [Around.under_plain (weight_type_call_type "set" [.ref l] []) rfl]
  have h1 := F.called_set.notType
  have h2 := F.called_set.canCreate
  have hct := F.typeCall_set_1 (.ref l)
  repeat (any_goals (first | assumption | wp_step))

  refine codeAny_mono (code_set_led1 (.ref l) (E := E) (Q₁ := fun obj s₁ => obj = .ref s.heap.objs.size ∧ s₁ = { s with heap := s.heap.push { cls := .type "set", dict := none, data := .set #[] 0 (.fresh 0 0 (!w.params.followText "set-order")) } }) ⟨rfl, rfl⟩) fun r s₁ hr => ?_
  cases r with
  | error e => exact hr
  | ok fl =>
    cases fl with
    | ret obj =>
      obtain ⟨rfl, rfl⟩ := hr
      have hS : (s.heap.push { cls := .type "set", dict := none, data := .set #[] 0 (.fresh 0 0 (!w.params.followText "set-order")) }).get? s.heap.objs.size = some { cls := .type "set", dict := none, data := .set #[] 0 (.fresh 0 0 (!w.params.followText "set-order")) } := Heap.get?_push_size _ rfl
      have hT : Shared.TypeIs { s with heap := s.heap.push { cls := .type "set", dict := none, data := .set #[] 0 (.fresh 0 0 (!w.params.followText "set-order")) } } (.ref s.heap.objs.size) "set" := ⟨_, hS, rfl⟩
      have hli := F.called_set.init.lookup
      have hbi := F.called_set.init.bind (.ref s.heap.objs.size)
      repeat (any_goals (first | assumption | wp_step))

      refine codeAny_mono (codeAny_call_builtin (R := wants (fun r s₂ => r = .none ∧ ∃ h' tk, s₂ = { s with heap := h', toks := tk } ∧ SxAt P w h' s.heap.objs.size ns ∧
          (∀ b o, s.heap.get? b = some o → h'.get? b = some o)) E) F.called_set.init.plain F.entry_set_init (check_set_init_1 hT ?_)) fun r₂ s₂ hr₂ => ?_
      · obtain ⟨ol, hol, hcl, nl, hdl⟩ := hl
        obtain ⟨ocls, odict, odata, oslots⟩ := ol
        simp only at hcl hdl
        subst hcl; subst hdl
        have hol' : (s.heap.push { cls := .type "set", dict := none, data := .set #[] 0 (.fresh 0 0 (!w.params.followText "set-order")) }).get? l = some { cls := .type "list", dict := odict, data := .seq items nl, slots := oslots } := Heap.get?_push_of_some _ hol
        have hsls := F.sub_list_set
        have hslf := F.sub_list_frozenset
        have hne : (Value.type "list" == Value.type "dict") = false := by decide
        have hl1 : (s.heap.push { cls := .type "set", dict := none, data := .set #[] 0 (.fresh 0 0 (!w.params.followText "set-order")) }).IsList l items := ⟨_, hol', rfl, nl, rfl⟩
        unfold Builtin.«set.__init__» noKeywords Builtin.Frozenset.updateFrom
        generalize hPI : pyIter = PI
        wp_walk
        subst hPI

        refine wpAny_pyIter_list hl1 ?_
        refine wpAny_bind (wpAny_runValue ?_)
        have hlS : l < s.heap.objs.size := Heap.lt_size hol
        have hh3 : A.in1.in1.in1.handled = none := by simp [hh]
        have hz1 : (s.heap.push { cls := .type "set", dict := none, data := .set #[] 0 (.fresh 0 0 (!w.params.followText "set-order")) }).objs.size = s.heap.objs.size + 1 := Heap.size_push ..
        have hneI : l ≠ (s.heap.push { cls := .type "set", dict := none, data := .set #[] 0 (.fresh 0 0 (!w.params.followText "set-order")) }).objs.size := by
          rw [Heap.size_push]; exact Nat.ne_of_lt (Nat.lt_succ_of_lt hlS)
        have hSf : s.heap.objs.size ∉ [(s.heap.push { cls := .type "set", dict := none, data := .set #[] 0 (.fresh 0 0 (!w.params.followText "set-order")) }).objs.size, l] := by
          rw [Heap.size_push]; simp only [List.mem_cons, List.mem_singleton, List.not_mem_nil, or_false, not_or]
          exact ⟨Nat.ne_of_lt (Nat.lt_succ_self _), Nat.ne_of_gt hlS⟩
        have hval : ∀ (i : Nat) (v : Value), items[i]? = some v → ∃ k t, ns[i]? = some k ∧ v = .str k t := fun i v hv => strs_get hit i v (by rw [Array.getElem?_toList]; exact hv)
        refine sx_loop ((Walks.list hh3 _ l hneI items).toS) s.heap.objs.size
          hSf ns hisz hb hval (items.size - 0) 0 _ (by omega) (Nat.zero_le _)
          ⟨⟨_, Heap.get?_push_size _ rfl, rfl, rfl⟩, (hl1.push _)⟩ ?hS0 ?hR
        case hS0 =>
          have hget : ((s.heap.push { cls := .type "set", dict := none, data := .set #[] 0 (.fresh 0 0 (!w.params.followText "set-order")) }).push { cls := .type "list_iterator", data := .fields #[.ref l, .int 0 0] }).get? s.heap.objs.size
              = some { cls := .type "set", dict := none, data := .set #[] 0 (.fresh 0 0 (!w.params.followText "set-order")) } := Heap.get?_push_of_some _ hS
          exact ⟨(#[], 0, .fresh 0 0 (!w.params.followText "set-order")), [], hget, ⟨PySem.Froz.TxOk.nil (by rfl), List.Pairwise.nil, by
            show _ ∨ (!w.params.followText "set-order") = true
            cases w.params.followText "set-order"
            · exact .inr rfl
            · exact .inl rfl⟩, List.nodup_nil, fun x => by simp, by simp⟩
        case hR =>
          intro s' hm hS'
          obtain ⟨h', g2, d', tk', os'⟩ := s'
          have eg : g2 = s.gens := hm.gens
          have ed : d' = s.drawn := hm.drawn
          have eo : os' = s.os := hm.os
          subst eg; subst ed; subst eo
          show wpAny _ _ _ _ _ _
          refine wpAny_pure ?_
          show wpAny _ _ (ret Value.none) _ _ _
          refine wpAny_pure ⟨rfl, h', tk', rfl, hS', fun b o e => ?_⟩
          have hb0 : b < s.heap.objs.size := Heap.lt_size e
          have hb1 : b ≠ s.heap.objs.size := Nat.ne_of_lt hb0
          have hb2 : b ≠ (s.heap.push { cls := .type "set", dict := none, data := .set #[] 0 (.fresh 0 0 (!w.params.followText "set-order")) }).objs.size := by
            rw [Heap.size_push]; exact Nat.ne_of_lt (Nat.lt_succ_of_lt hb0)
          exact hm.heap b o (by simp only [List.mem_cons, List.mem_singleton, List.not_mem_nil, or_false, not_or]; exact ⟨hb1, hb2⟩) (Heap.get?_push_of_some _ (Heap.get?_push_of_some _ e))

      · cases r₂ with
        | error e => exact hr₂
        | ok fl₂ =>
          cases fl₂ with
          | ret r =>
            obtain ⟨rfl, h', tk, rfl, hS', hk'⟩ := hr₂
            repeat (any_goals (first | assumption | wp_step))
            exact h _ _ hS' hk'
          | _ => exact hr₂.elim
    | _ => exact hr.elim

/-! ### sorted of it -/
theorem d_strs_srt (ks : List Str) : srtOk (ks.map D.str) = true := by
  unfold srtOk
  have h1 : D.plL 60 (ks.map D.str) = true := by
    induction ks with
    | nil => rfl
    | cons k ks ih => rw [List.map_cons, D.plL]; simp [D.pl, ih]
  rw [h1]
  simp only [Bool.true_and, Bool.and_eq_true, List.all_eq_true]
  refine ⟨fun x hx y hy => ?_, fun x hx => ?_⟩
  · obtain ⟨k, _, rfl⟩ := List.mem_map.mp hx
    obtain ⟨k', _, rfl⟩ := List.mem_map.mp hy
    simp [D.alk]
  · obtain ⟨k, _, rfl⟩ := List.mem_map.mp hx
    simp [D.tupE]
theorem sortD_same {ds es : List D} (h : srtOk ds = true) (p : ds.Perm es) : sortD ds = sortD es :=
  srtd_unique h _ _ (sortD_srtd h ds fun x hx => hx) (sortD_srtd h es fun x hx => p.mem_iff.mpr hx) ((sortD_perm ds).trans (p.trans (sortD_perm es).symm)) fun x hx => (sortD_perm ds).mem_iff.mp hx
theorem strs_each : ∀ {vs : List Value} (h : ∀ v ∈ vs, ∃ k t, v = Value.str k t), ∃ ks : List Str, PySem.W.EachIs (fun (u : Value) (p : V × D) => RelV p.1 u) vs (ks.map fun k => (V.str k, D.str k)) ∧ (∀ k, k ∈ ks ↔ ∃ t, Value.str k t ∈ vs) ∧ ks.length = vs.length
  | [], _ => ⟨[], .nil, by simp, rfl⟩
  | v :: vs, h => by
    obtain ⟨k, t, rfl⟩ := h v List.mem_cons_self
    obtain ⟨ks, h1, h2, h3⟩ := strs_each fun u hu => h u (List.mem_cons_of_mem _ hu)
    refine ⟨k :: ks, .cons ⟨t, rfl⟩ h1, fun z => ?_, by simp [h3]⟩
    rw [List.mem_cons, h2]
    constructor
    · rintro (rfl | ⟨u, hu⟩)
      · exact ⟨t, List.mem_cons_self⟩
      · exact ⟨u, List.mem_cons_of_mem _ hu⟩
    · rintro ⟨u, hu⟩
      rcases List.mem_cons.mp hu with e | hu
      · cases e; exact .inl rfl
      · exact .inr ⟨u, hu⟩
end
end DL

set_option Elab.async false
set_option linter.all false
set_option maxRecDepth 100000
set_option maxHeartbeats 4000000
/-! DS5: sorted(set(xs)) of texts, by trees. -/
namespace DL
open PySem PySem.Spec L2
open PyProof.Rows hiding St
/-- what stands in a list, once each -/
def onceS : List Str → List Str
  | [] => []
  | x :: xs => if x ∈ xs then onceS xs else x :: onceS xs
theorem onceS_mem (a : Str) : ∀ l : List Str, a ∈ onceS l ↔ a ∈ l
  | [] => by simp [onceS]
  | x :: xs => by
    unfold onceS
    split
    · rename_i h
      rw [onceS_mem a xs, List.mem_cons]
      exact ⟨.inr, fun z => z.elim (fun e => by rw [e]; exact h) id⟩
    · rw [List.mem_cons, onceS_mem a xs, List.mem_cons]
theorem onceS_nd : ∀ l : List Str, (onceS l).Nodup
  | [] => .nil
  | x :: xs => by
    unfold onceS
    split
    · exact onceS_nd xs
    · rename_i h
      exact List.nodup_cons.mpr ⟨fun z => h ((onceS_mem x xs).mp z), onceS_nd xs⟩
theorem onceS_len : ∀ l : List Str, (onceS l).length ≤ l.length
  | [] => Nat.le_refl _
  | x :: xs => by
    have := onceS_len xs
    unfold onceS
    split
    · rw [List.length_cons]; omega
    · rw [List.length_cons, List.length_cons]; omega
section
variable {P : Program} {w : World} {A : Around} {E : Value → Shared → Prop} {s : Shared} {a : Addr}
theorem perm_nd {α : Type} [DecidableEq α] {l m : List α} (hl : l.Nodup) (hm : ∀ x, x ∈ m ↔ x ∈ l) (e : m.length = l.length) : m.Perm l := by
  have key : ∀ {l m : List α}, l.Nodup → (∀ x ∈ l, x ∈ m) → m.length ≤ l.length → m.Perm l := by
    intro l
    induction l with
    | nil =>
      intro m _ _ h
      have : m = [] := List.length_eq_zero_iff.mp (by simpa using h)
      rw [this]
    | cons x xs ih =>
      intro m hn hs hle
      obtain ⟨h1, h2⟩ := List.nodup_cons.mp hn
      have hx := hs x List.mem_cons_self
      have hp := List.perm_cons_erase hx
      refine hp.trans ((ih h2 (fun y hy => ?_) ?_).cons x)
      · refine (List.mem_erase_of_ne ?_).mpr (hs y (List.mem_cons_of_mem _ hy))
        rintro rfl
        exact h1 hy
      · rw [List.length_erase_of_mem hx]
        rw [List.length_cons] at hle
        omega
  exact key hl (fun x hx => (hm x).mpr hx) (by omega)
theorem sorted_setS {xs : List Str} {Q : Value → Shared → Prop} (S : SxAt P w s.heap a xs) (hh : A.handled = none) (hx : xs.length < 4000) (hu : A.units + 8 < cLine)
    (hQ : ∀ s' p (out : Array Value) (c : Nat) (ys : List V), (∀ b o, s.heap.get? b = some o → s'.heap.get? b = some o) → s'.gens = s.gens → s'.os = s.os → s.heap.objs.size ≤ p →
      s'.heap.get? p = some (seqObj "list" out c) → Vals ys out.toList → (∃ ps : List (V × D), ys = ps.map (·.1) ∧ (∀ p ∈ ps, ∃ k, p = (V.str k, D.str k)) ∧ ps.map (·.2) = sortD ((onceS xs).map D.str)) → Q (.ref p) s') :
    wpAny (model P w) A (call (.builtin "sorted") [.ref a]) Q E s := by
  obtain ⟨D0, l, ho, F, nd, mem, len⟩ := S.ex
  obtain ⟨es, ep, t⟩ := D0
  have hsz : es.size = l.length := F.tx.sz
  refine Calls.call_function_entry kind_sorted plain_sorted entry_sorted (args_sorted1 _) ?_
  unfold Builtin.«sorted»
  refine wpAny_bind (m := checkCount "sorted" 1 1 _) (wpAny_pure ?_)
  refine wpAny_bind (collect_set (A := A.in1) hh ⟨_, ho, rfl, rfl⟩ F.tx.fit (by show es.size < scanBound; unfold scanBound; omega) F.ris F.led fun s1 vs k1 hz g1 o1 pm => ?_)
  have hvl : vs.length = l.length := by rw [pm.length_eq, List.length_map, Array.length_toList]; exact hsz
  have elem : ∀ v ∈ vs, ∃ k t, v = Value.str k t := fun v hv => by
    obtain ⟨e, he, rfl⟩ := List.mem_map.mp (pm.mem_iff.mp hv)
    obtain ⟨⟨k, hk, _⟩, _⟩ := F.tx.el e he
    obtain ⟨t, ht⟩ := Value.isStrOf_shape (show Value.isStrOf k e.2 = true from hk)
    exact ⟨k, t, ht⟩
  obtain ⟨ks, he, hk, hl⟩ := strs_each elem
  have kl : ks.Perm l := perm_nd nd (fun k => by
    rw [hk, F.tx.mem]
    constructor
    · rintro ⟨t, ht⟩
      obtain ⟨e, he, q⟩ := List.mem_map.mp (pm.mem_iff.mp ht)
      exact ⟨e, he, by rw [q]; exact PySem.Froz.is_str k t⟩
    · rintro ⟨e, he, q⟩
      obtain ⟨t, ht⟩ := Value.isStrOf_shape (show Value.isStrOf k e.2 = true from q)
      exact ⟨t, pm.mem_iff.mpr (List.mem_map.mpr ⟨e, he, ht⟩)⟩) (by omega)
  have ko : ks.Perm (onceS xs) := kl.trans ((List.perm_ext_iff_of_nodup nd (onceS_nd xs)).mpr fun k => by rw [mem, onceS_mem])
  refine wpAny_bind (wpAny_newList ?_ (by rw [hvl, sizeLine_eq]; omega))
  have hoL : (s1.heap.push (seqObj "list" vs.toArray 0)).get? s1.heap.objs.size = some (seqObj "list" vs.toArray 0) := Heap.get?_push_size _ rfl
  have em : (ks.map fun k => (V.str k, D.str k)).map (fun p : V × D => p.2.py) = (ks.map D.str).map D.py := by rw [List.map_map, List.map_map]; rfl
  have hb : (ks.map fun k => (V.str k, D.str k)).map (·.2) = ks.map D.str := by rw [List.map_map]; rfl
  have er : PySem.W.EachIs (fun v (p : V × D) => ∃ as, Reads (s1.heap.push (seqObj "list" vs.toArray 0)) v p.2.py as ∧ s1.heap.objs.size ∉ as) vs (ks.map fun k => (V.str k, D.str k)) := by
    have key : ∀ {us : List Value} {zs : List Str}, PySem.W.EachIs (fun (u : Value) (p : V × D) => RelV p.1 u) us (zs.map fun k => (V.str k, D.str k)) → PySem.W.EachIs (fun v (p : V × D) => ∃ as, Reads (s1.heap.push (seqObj "list" vs.toArray 0)) v p.2.py as ∧ s1.heap.objs.size ∉ as) us (zs.map fun k => (V.str k, D.str k)) := by
      intro us zs h
      induction zs generalizing us with
      | nil => cases h; exact .nil
      | cons z zs ih =>
        cases h with
        | cons h1 h2 =>
          obtain ⟨t, rfl⟩ := h1
          exact .cons ⟨[], .str z t, by simp⟩ (ih h2)
    exact key he
  refine wpAny_bind (wpAny_holding (PySem.W.list_sort_data (enc := fun p : V × D => p.2.py) hoL he er (by rw [em]; exact srt_alike (d_strs_srt ks)) (by rw [em]; exact srt_sortable (d_strs_srt ks)) (by rw [List.length_map, sizeLine_eq]; omega) (fun b hb => ?_) fun out e1 e2 => ?_))
  · obtain ⟨k, _, rfl⟩ := List.mem_map.mp hb
    show A.in1.units + 1 + 0 < cLine
    have : A.in1.units ≤ A.units + 1 := by show _ + _ ≤ _; omega
    omega
  · obtain ⟨c, hc⟩ := sortedHeap_at (vs := vs) (out := out.toArray) hoL
    have hp := List.mergeSort_perm (ks.map fun k => (V.str k, D.str k)) (PySem.W.dataLe false fun p : V × D => p.2.py)
    refine wpAny_pure ⟨_, rfl, hQ _ s1.heap.objs.size out.toArray c _ (fun b u e => ?_) g1 o1 hz hc (each_vals e2) ⟨_, rfl, fun p hp2 => ?_, ?_⟩⟩
    · have q := k1 b u e
      have hlt := Heap.lt_size q
      show (sortedHeap (s1.heap.push (seqObj "list" vs.toArray 0)) s1.heap.objs.size vs out.toArray).get? b = some u
      rw [sortedHeap_old (Nat.ne_of_lt hlt) (by rw [size_push']; exact Nat.lt_succ_of_lt hlt)]
      exact Heap.get?_push_of_some _ q
    · obtain ⟨k, _, rfl⟩ := List.mem_map.mp (hp.mem_iff.mp hp2)
      exact ⟨k, rfl⟩
    · rw [srtd_merge (ks.map D.str) _ hb (d_strs_srt ks)]
      exact sortD_same (d_strs_srt ks) (ko.map _)
def tSortedSetS (K : PySem.W.Frag) (ta : TE) : TE := fun σ H Q => ta σ H fun x H1 => ∃ (l : Addr) (xs : List Str), x = V.ref l ∧ SqL K H1 l (xs.map V.str) ∧ xs.length < 4000 ∧ ∀ p (ps : List (V × D)), (∀ p ∈ ps, ∃ k, p = (V.str k, D.str k)) → ps.map (·.2) = sortD ((onceS xs).map D.str) → H1 p = none → Q (.ref p) (upd H1 p (.lst (ps.map (·.1))))
end
end DL

set_option Elab.async false
set_option linter.all false
set_option maxRecDepth 100000
set_option maxHeartbeats 4000000
/-! DS6: sorted(set(xs)) of texts: the rule by trees. -/
namespace DL
open PySem PySem.Spec L2
open PyProof.Rows hiding St
section
variable {X : Cx}
theorem strs_vals : ∀ {xs : List Str} {us : List Value}, Vals (xs.map V.str) us → StrsAre us xs
  | [], _, h => by cases h; exact .nil
  | x :: xs, _, h => by
    cases h with
    | cons h1 h2 =>
      obtain ⟨t, rfl⟩ := h1
      exact .cons x t (strs_vals h2)
theorem pe_sortedSetS {a : Expr} {ta : TE} {p p2 q pos : Pos} (hc : X.calm = true) (hu : X.A.units + 64 < cLine) (hg : Gl X "sorted") (hm : X.mg "sorted" = none) (hg2 : Gl X "set") (hm2 : X.mg "set" = none) (ha : PE X a ta)
    (na : starEach [a] X.env = (false, eval a X.env) :: starEach [] X.env := by rfl) : PE X (.Call (.Name "sorted" p) [.Call (.Name "set" p2) [a] [] q] [] pos) (tSortedSetS X.K ta) := by
  refine ⟨fun pins s σ H Q I h => ?_⟩
  refine Call_ (ld_blt I hg hm PyProof.Rows.boot_sorted ?_)
  refine PyProof.Rows.callWith_builtin1 (PyProof.Rows.args_cons ?_ rfl) rfl rfl
  refine Call_ (ld_blt I hg2 hm2 PyProof.Rows.boot_set ?_)
  refine PyProof.Rows.callWith_type1 (PyProof.Rows.args_cons (thn (ha.run pins s σ H _ I h) fun v s1 ⟨x, H1, I1, r1, q1⟩ => PyProof.Rows.args_nil ?_) na) na rfl
  obtain ⟨l, xs, rfl, hq, h4, q1⟩ := q1
  cases r1
  obtain ⟨its, r, pl, hz⟩ := I1.list hq
  refine set_of_listS (P := X.prog) (w := X.w) xs (I1.ok.hd hc) pl.isList (by simpa using strs_vals r) (by unfold scanBound; omega) fun h' tk R k => ?_
  refine PyProof.Rows.args_nil ?_
  have I2 : Inv X pins σ H1 { s1 with heap := h', toks := tk } := I1.kept k
  refine sorted_setS (w := X.w) (s := { s1 with heap := h', toks := tk }) R (I1.ok.hd hc) h4 ?_ fun s' p out c2 ys k2 g o hp hgp hv ⟨ps, e1, e2, e3⟩ => ?_
  · first
      | omega
      | (show _ + _ < _; omega)
  · subst e1
    have hlen : (ps.map (·.1)).length ≤ sizeLine := by
      have := congrArg List.length e3
      rw [List.length_map, (sortD_perm _).length_eq, List.length_map] at this
      have h2 := onceS_len xs
      rw [List.length_map, sizeLine_eq]
      omega
    have hn : H1 p = none := I2.hok.fresh hp
    have J : Inv X pins σ (upd H1 p (.lst (ps.map (·.1)))) { s1 with heap := s'.heap, gens := s'.gens, drawn := s'.drawn, toks := s'.toks } :=
      Inv.call (s := { s1 with heap := h', toks := tk }) I2 (ch := []) (Un.laid k2 hp hn) (I2.hok.laid k2 hp ⟨hlen, out.toList, c2, hv, hgp⟩) (by rw [g]; exact I2.bare) (fun _ z => nomatch z)
    have e4 : s' = { s1 with heap := s'.heap, gens := s'.gens, drawn := s'.drawn, toks := s'.toks } := by
      cases s'
      cases s1
      cases o
      rfl
    rw [e4]
    exact ⟨.ref p, _, J, rfl, q1 p ps e2 e3 hn⟩
end
section
variable {S : SA} {X : Cx} {G F G' F' H H' : Hp} {σ : L2.St} {env : DEnv} {d e : D} {v u : V} {p : Addr} {Q : VK} {m mk mv : DE} {a : Expr} {p1 p2 p3 pos : Pos}
def strsOf : List D → Option (List Str)
  | [] => some []
  | .str x :: r => (strsOf r).map (x :: ·)
  | _ :: _ => none
theorem strs_rpl : ∀ {ds : List D} {xs : List Str} {vs : List V}, strsOf ds = some xs → RpL S F ds vs → vs = xs.map V.str
  | [], xs, vs, h, r => by
    cases r
    have h : some [] = some xs := h
    cases h
    rfl
  | d :: ds, xs, vs, h, r => by
    cases r with
    | cons r t =>
      cases d with
      | str x =>
        rw [strsOf, Option.map_eq_some_iff] at h
        obtain ⟨ys, h1, rfl⟩ := h
        cases r
        rw [strs_rpl h1 t]
        rfl
      | _ => cases h
theorem strs_rp : ∀ {ds : List D} {xs : List Str} {vs : List V}, strsOf ds = some xs → RpL S F ds vs → ∀ k ∈ xs, Rp S F (.str k) (.str k)
  | [], xs, vs, h, r, k, hk => by
    have h : some [] = some xs := h
    cases h
    cases hk
  | d :: ds, xs, vs, h, r, k, hk => by
    cases r with
    | cons r t =>
      cases d with
      | str x =>
        rw [strsOf, Option.map_eq_some_iff] at h
        obtain ⟨ys, h1, rfl⟩ := h
        rcases List.mem_cons.mp hk with rfl | hk
        · cases r with
          | str _ a b => exact .str _ a b
        · exact strs_rp h1 t k hk
      | _ => cases h
def mSortSetS (m : DE) : DE := fun env => m env >>= fun d => match d with
  | .lst xs => M.opt (strsOf xs) >>= fun ss => if ss.length < 4000 then .ret (.lst (sortD ((onceS ss).map D.str))) else .fail
  | _ => .fail
theorem qsortSetS (hc : X.calm = true) (hu : X.A.units + 64 < cLine) (hg : Gl X "sorted") (hm : X.mg "sorted" = none) (hg2 : Gl X "set") (hm2 : X.mg "set" = none) (ha : QB S X a m) (na : starEach [a] X.env = (false, eval a X.env) :: starEach [] X.env := by rfl) :
    QF S X (.Call (.Name "sorted" p1) [.Call (.Name "set" p2) [a] [] p3] [] pos) (mSortSetS m) :=
  pe_weak (pe_sortedSetS hc hu hg hm hg2 hm2 ha na) fun σ H Q ⟨G, F, env, g, q⟩ => ⟨G, F, env, g, M.wp_mono (M.wpb q) fun d q v G1 F1 H1 e1 g1 r1 => by
    cases d with
    | lst xs =>
      obtain ⟨l, vs, rfl, h1, l1, z1⟩ := r1.lst g1
      obtain ⟨ss, hn, q⟩ := M.wp_opt (M.wpb q)
      split at q
      · rename_i h4
        have hrp := strs_rp hn l1
        have ev := strs_rpl hn l1
        subst ev
        refine ⟨l, ss, rfl, .inl (.of h1), h4, fun t ps hp he ht => ?_⟩
        have rr : RpL S F1 (sortD ((onceS ss).map D.str)) (ps.map (·.1)) := by
          rw [← he]
          exact RpL.of_mem fun z hz => by
            obtain ⟨k, rfl⟩ := hp z hz
            refine hrp k ((onceS_mem k ss).mp ?_)
            have : D.str k ∈ sortD ((onceS ss).map D.str) := by rw [← he]; exact List.mem_map.mpr ⟨_, hz, rfl⟩
            obtain ⟨k', hk', ek⟩ := List.mem_map.mp ((sortD_perm _).mem_iff.mp this)
            cases ek
            exact hk'
        exact (postF_shift e1 (show PostF S G F σ env Q _ from q)).lst g1 ht rr (by
          have := congrArg List.length he
          rw [List.length_map, (sortD_perm _).length_eq, List.length_map] at this
          have h2 := onceS_len ss
          rw [List.length_map, sizeLine_eq]
          omega)
      · exact q.elim
    | _ => exact q.elim⟩
end
end DL

set_option Elab.async false
set_option linter.all false
set_option maxRecDepth 100000
set_option maxHeartbeats 1000000
/-! DK1: dicts with plain keys: walks over keys, sorted of them. -/
namespace DL
open PySem PySem.Spec L2
open PyProof.Rows hiding St
section
variable {S : SA} {X : Cx} {G F G' F' H H' : Hp} {σ : L2.St} {env : DEnv} {d e : D} {v u : V} {p : Addr} {Q : VK} {m mk mv : DE}
theorem keyD_rp {k : Key} (h : KeyD d k) : Rp S F d (kV k) := by
  rcases h with ⟨i, rfl, rfl⟩ | ⟨x, rfl, rfl, h1, h2⟩
  · exact .int i
  · exact .str x h1 h2
theorem RpK.get : ∀ {kvs : List (D × D)} {es : List (Key × V)} {i : Nat} {x : D × D}, RpK S F kvs es → kvs[i]? = some x → ∃ k v, es[i]? = some (k, v) ∧ KeyD x.1 k
  | _, _, _, _, .nil, e => by simp at e
  | _, _, 0, x, .cons (k := k) (v := v) a _ _, e => by simp at e; subst e; exact ⟨k, v, rfl, a⟩
  | _, _, i + 1, x, .cons _ _ t, e => by
    obtain ⟨k, v, h1, h2⟩ := RpK.get (i := i) (x := x) t (by simpa using e)
    exact ⟨k, v, by simpa using h1, h2⟩
theorem RpK.ln : ∀ {kvs : List (D × D)} {es : List (Key × V)}, RpK S F kvs es → kvs.length = es.length
  | _, _, .nil => rfl
  | _, _, .cons _ _ t => by rw [List.length_cons, List.length_cons, t.ln]
theorem its_keysK {I : IM} (O : IMSub I) {kvs : List (D × D)} {es : List (Key × V)} {a : Addr} {o : Obj} (f : F' a = some (.frz o (.dK es))) (r : RpK S F' kvs es) : ItsD S (Itk a o es) (I.P F' σ env) (kvs.map (·.1)) where
  go := fun i G2 F2 σ2 H2 env2 hp g hi => ⟨g.fh _ _ (O.sub hp _ _ f), by rw [← r.ln]; simpa using hi⟩
  stop := fun i G2 F2 σ2 H2 env2 hp g hi => ⟨g.fh _ _ (O.sub hp _ _ f), by rw [← r.ln]; simpa using hi⟩
  yld := fun i G2 F2 σ2 H2 env2 x H3 d hp g hd y => by
    obtain ⟨rfl, k, v, h1, rfl⟩ := y
    rw [List.getElem?_map, Option.map_eq_some_iff] at hd
    obtain ⟨p, hp1, rfl⟩ := hd
    obtain ⟨k', v', h2, h3⟩ := r.get hp1
    rw [h1] at h2
    cases h2
    exact ⟨G2, F2, Ext.refl _ _, g, keyD_rp h3⟩
def iKeysK (m : DE) : DI := fun env => m env >>= fun d => match d with
  | .dct false kvs => .ret (kvs.map (·.1))
  | _ => .fail
theorem qi_keysK {I : IM} (O : IMSub I) {tg l : Expr} (hl : QE S X l m) : QI I S X tg l (iKeysK m) :=
  pi_weak (pi_keys hl) fun σ H R ⟨G, F, env, g, ok, q⟩ => ⟨G, F, env, g, M.wp_mono (M.wpb q) fun d q v G1 F1 H1 e1 g1 r1 => by
    cases d with
    | dct t kvs =>
      cases t with
      | true => exact q.elim
      | false =>
        cases r1 with
        | dctK h1 h2 h3 =>
          rename_i a o es
          exact ⟨a, o, rfl, .inl ⟨es, g1.fh _ _ h1, q _ G1 F1 H1 e1 g1 (its_keysK O h1 h2) (by rw [List.length_map, h2.ln]; exact h3)⟩⟩
    | _ => exact q.elim⟩
/-! ### sorted(d) -/
def rSortedK (K : PySem.W.Frag) : List V → Hp → VK → Prop := fun vs H Q => ∃ (a : Addr) (es : List (Key × V)) (ds : List D), vs = [V.ref a] ∧ Rd H a (.dK es) ∧ ds.length = es.length ∧ (∀ (i : Nat) d k v, ds[i]? = some d → es[i]? = some (k, v) → KeyD d k) ∧ srtOk ds = true ∧
  ∀ (ps : List (V × D)) (p : Addr), (∀ z ∈ ps, ∃ k, KeyD z.2 k ∧ z.1 = kV k) → ps.map (·.2) = sortD ds → H p = none → Q (.ref p) (upd H p (.lst (ps.map (·.1))))
theorem each_keys {h : Heap} {a : Addr} : ∀ {us : List Value} {es : List (Key × V)} {ds : List D}, us.length = es.length → ds.length = es.length → (∀ (i : Nat) d k v, ds[i]? = some d → es[i]? = some (k, v) → KeyD d k) → (∀ (i : Nat) u k v, us[i]? = some u → es[i]? = some (k, v) → RelV (kV k) u) →
    ∃ bs : List (V × D), bs.map (·.2) = ds ∧ PySem.W.EachIs (fun (u : Value) (p : V × D) => RelV p.1 u) us bs ∧ PySem.W.EachIs (fun (u : Value) (p : V × D) => ∃ as, Reads h u p.2.py as ∧ a ∉ as) us bs ∧ ∀ z ∈ bs, ∃ k, KeyD z.2 k ∧ z.1 = kV k
  | [], [], [], _, _, _, _ => ⟨[], rfl, .nil, .nil, fun z hz => absurd hz (by simp)⟩
  | [], _ :: _, _, h, _, _, _ => by simp at h
  | _ :: _, [], _, h, _, _, _ => by simp at h
  | [], [], _ :: _, _, h, _, _ => by simp at h
  | _ :: _, _ :: _, [], _, h, _, _ => by simp at h
  | u :: us, (k, v) :: es, d :: ds, h1, h2, h3, h4 => by
    obtain ⟨bs, e1, e2, e3, e4⟩ := each_keys (h := h) (a := a) (us := us) (es := es) (ds := ds) (by simpa using h1) (by simpa using h2) (fun i d k v a b => h3 (i + 1) d k v (by simpa using a) (by simpa using b)) (fun i u k v a b => h4 (i + 1) u k v (by simpa using a) (by simpa using b))
    have kd := h3 0 d k v rfl rfl
    have kr := h4 0 u k v rfl rfl
    refine ⟨(kV k, d) :: bs, by rw [List.map_cons, e1], .cons kr e2, .cons ?_ e3, fun z hz => ?_⟩
    · rcases kd with ⟨i, rfl, rfl⟩ | ⟨x, rfl, rfl, _, _⟩
      · obtain ⟨t, rfl⟩ := kr
        exact ⟨[], .int i t, by simp⟩
      · obtain ⟨t, rfl⟩ := kr
        exact ⟨[], .str x t, by simp⟩
    · rcases List.mem_cons.mp hz with rfl | hz
      · exact ⟨k, kd, rfl⟩
      · exact e4 z hz
theorem keyIs_rel {k : Key} {u : Value} (h : keyIs k u = true) : RelV (kV k) u := by
  cases k with
  | inl i =>
    obtain ⟨t, rfl⟩ := Value.isInt_shape (show Value.isInt i u = true from h)
    exact ⟨t, rfl⟩
  | inr x =>
    obtain ⟨t, rfl⟩ := Value.isStrOf_shape (show Value.isStrOf x u = true from h)
    exact ⟨t, rfl⟩
theorem cr_sortedK (hc : X.calm = true) (hu : X.A.units + 64 < cLine) : CallR X (.builtin "sorted") (rSortedK X.K) := by
  intro pins s σ H vs us Q I r h
  obtain ⟨a, es, ds, rfl, hd, hl, hk, ho, q⟩ := h
  rw [Vals.ref1 r]
  obtain ⟨z, lo, kvs, kv, dd⟩ := dk_rd I.hok hd
  obtain ⟨ep, da⟩ := dd.dictAt
  have hlen : kvs.length = es.length := kv.length.symm
  have ek := kv.keys
  refine Calls.call_function_entry PyProof.Rows.kind_sorted PyProof.Rows.plain_sorted PyProof.Rows.entry_sorted (PyProof.Rows.args_sorted1 _) ?_
  unfold Builtin.«sorted»
  refine wpAny_bind (m := checkCount "sorted" 1 1 _) (wpAny_pure ?_)
  refine wpAny_bind (PySem.W.kdu_collect (A := X.A.in1) (PySem.W.kdl_dict (knd := mixKind X.prog X.w) (kvs := kvs) (ep := ep) lo) (I.ok.hd hc) da (by omega) fun h' tk acc hkeep hacc => ?_)
  have hal : acc.toList.length = es.length := by rw [Array.length_toList, hacc.1, hlen]
  have hrel : ∀ (i : Nat) u k v, acc.toList[i]? = some u → es[i]? = some (k, v) → RelV (kV k) u := fun i u k v h1 h2 => by
    rw [Array.getElem?_toList] at h1
    obtain ⟨k', x, h3, h4⟩ := hacc.2 i u h1
    have e1 : (es.map (·.1))[i]? = some k := by rw [List.getElem?_map, h2]; rfl
    rw [ek, List.getElem?_map, h3] at e1
    have e2 : k' = k := Option.some.inj e1
    rw [e2] at h4
    exact keyIs_rel h4
  have I1 : Inv X pins σ H { s with heap := h', toks := tk } := I.kept hkeep
  obtain ⟨bs, hb, he, hr, hz⟩ := each_keys (h := h'.push (seqObj "list" acc.toList.toArray 0)) (a := h'.objs.size) hal hl hk hrel
  have hbl : bs.length = es.length := by rw [← hl, ← hb, List.length_map]
  refine wpAny_bind (wpAny_newList ?_ (by rw [hal]; exact z))
  have hoL : (h'.push (seqObj "list" acc.toList.toArray 0)).get? h'.objs.size = some (seqObj "list" acc.toList.toArray 0) := Heap.get?_push_size _ rfl
  show wpAny _ _ _ _ _ { s with heap := h'.push (seqObj "list" acc.toList.toArray 0), toks := tk }
  have hm : bs.map (fun p : V × D => p.2.py) = ds.map D.py := by
    rw [← hb, List.map_map] <;> rfl
  refine wpAny_bind (wpAny_holding (PySem.W.list_sort_data (s := { s with heap := h'.push (seqObj "list" acc.toList.toArray 0), toks := tk }) (enc := fun p : V × D => p.2.py) (vs := acc.toList) hoL he hr (by rw [hm]; exact srt_alike ho) (by rw [hm]; exact srt_sortable ho) (by rw [hbl]; exact z) (fun b hb' => ?_) fun out e1 e2 => ?_))
  · have : b.2 ∈ ds := by rw [← hb]; exact List.mem_map.mpr ⟨b, hb', rfl⟩
    have h60 := D.dep 60 b.2 (srtOk_pl ho _ this)
    simp only [Around.in1_units]
    omega
  · have hp := List.mergeSort_perm bs (PySem.W.dataLe false fun p : V × D => p.2.py)
    obtain ⟨ep2, he'⟩ := PyProof.Rows.sortedHeap_at (vs := acc.toList) (out := out.toArray) hoL
    have hl2 : ((bs.mergeSort (PySem.W.dataLe false fun p : V × D => p.2.py)).map (·.1)).length ≤ sizeLine := by
      rw [List.length_map, hp.length_eq, hbl]; exact z
    refine wpAny_pure ⟨_, rfl, .ref h'.objs.size, upd H h'.objs.size (.lst ((bs.mergeSort (PySem.W.dataLe false fun p : V × D => p.2.py)).map (·.1))), I1.laid (t' := tk) (fun b u e => ?_) (Nat.le_refl _) ⟨hl2, out, ep2, each_vals e2, he'⟩, rfl,
      q _ _ (fun z hz' => hz z (hp.mem_iff.mp hz')) (srtd_merge ds _ hb ho) (I1.hok.fresh (Nat.le_refl _))⟩
    have hbl2 : b < h'.objs.size := Heap.lt_size e
    rw [PyProof.Rows.sortedHeap_old (Nat.ne_of_lt hbl2) (by rw [size_push']; exact Nat.lt_succ_of_lt hbl2)]
    exact Heap.get?_push_of_some _ e
def dSortedK : List D → M D
  | [.dct false kvs] => if srtOk (kvs.map (·.1)) then .ret (.lst (sortD (kvs.map (·.1)))) else .fail
  | _ => .fail
theorem c_sortedK (hc : X.calm = true) (hu : X.A.units + 64 < cLine) : CallF S X (.builtin "sorted") dSortedK := ⟨_, cr_sortedK hc hu, fun G F σ H env vs ds Q g r q => by
  unfold dSortedK at q
  split at q
  · rename_i kvs
    split at q
    · rename_i ho
      obtain ⟨v, rfl, r1⟩ := rdb1 r
      obtain ⟨p, es, rfl, h1, l1, z1⟩ := r1.dctK g
      refine ⟨p, es, kvs.map (·.1), rfl, h1, by rw [List.length_map, l1.ln], fun i d k v hd he => ?_, ho, fun ps a hp he hn => ?_⟩
      · rw [List.getElem?_map, Option.map_eq_some_iff] at hd
        obtain ⟨x, hx, rfl⟩ := hd
        obtain ⟨k', v', h2, h3⟩ := l1.get hx
        rw [he] at h2
        cases h2
        exact h3
      · have hr : RpL S F (sortD (kvs.map (·.1))) (ps.map (·.1)) := by
          rw [← he]
          exact RpL.of_mem fun z hz => by
            obtain ⟨k, h2, h3⟩ := hp z hz
            rw [h3]
            exact keyD_rp h2
        have hl : ps.length = es.length := by
          have := congrArg List.length he
          rw [List.length_map, (sortD_perm _).length_eq, List.length_map, l1.ln] at this
          exact this
        exact PostF.lst (show PostF S G F σ env Q (.lst (sortD (kvs.map (·.1)))) from q) g hn hr (by rw [List.length_map, hl]; exact z1)
    · exact q.elim
  · exact q.elim⟩
end
end DL

set_option Elab.async false
set_option linter.all false
set_option maxRecDepth 100000
set_option maxHeartbeats 1000000
/-! DK2: range(a, b, c), c above 0. -/
namespace DL
open PySem PySem.Spec L2
open PyProof.Rows hiding St
section
variable {S : SA} {X : Cx} {G F G' F' H H' : Hp} {σ : L2.St} {env : DEnv} {d e : D} {v u : V} {p : Addr} {Q : VK} {ma mb mc : DE} {a b c : Expr} {pp pos : Pos}
def rg3Ok (i j k : Int) : Bool := decide (0 < k) && (decide (k.natAbs < 1073741824) && (Builtin.Range.small i j k && decide ((Builtin.Range.rangeSize i j k).toNat ≤ 2 ^ 24)))
def rg3N (i j k : Int) : Nat := (Builtin.Range.rangeSize i j k).toNat
def iRg3P (ma mb mc : DE) : DI := fun env => ma env >>= fun x => mb env >>= fun y => mc env >>= fun z => asI x >>= fun i => asI y >>= fun j => asI z >>= fun k => if rg3Ok i j k then .ret (rgD3 i k (rg3N i j k)) else .fail
theorem qi_rg3P {I : IM} {tg : Expr} (hg : Gl X "range") (hm : X.mg "range" = none) (ha : QB S X a ma) (hb : QB S X b mb) (hc : QB S X c mc) (n1 : starEach [a, b, c] X.env = (false, eval a X.env) :: starEach [b, c] X.env := by rfl) (n2 : starEach [b, c] X.env = (false, eval b X.env) :: starEach [c] X.env := by rfl)
    (n3 : starEach [c] X.env = (false, eval c X.env) :: starEach [] X.env := by rfl) (hpl : (backTo pos (starEach [b, c] X.env)).any (·.1) = false := by rfl) : QI I S X tg (.Call (.Name "range" pp) [a, b, c] [] pos) (iRg3P ma mb mc) :=
  pi_weak (pi_range3 hg hm (pa_cons ha (pa_cons hb (pa_cons hc pa_nil n3) n2) n1) n1 hpl) fun σ H R ⟨G, F, env, g, ok, q⟩ => ⟨G, F, env, g, M.wp_mono (M.wpb q) fun d q v G1 F1 H1 e1 g1 r1 => ⟨G1, F1, env, g1, M.wp_mono (M.wpb q) fun d2 q v2 G2 F2 H2 e2 g2 r2 => ⟨G2, F2, env, g2, M.wp_mono (M.wpb q) fun d3 q v3 G3 F3 H3 e3 g3 r3 => by
    obtain ⟨i, ei, q1⟩ := asI_wp (M.wpb q)
    obtain ⟨j, ej, q2⟩ := asI_wp (M.wpb q1)
    obtain ⟨k, ek, q3⟩ := asI_wp (M.wpb q2)
    subst ei ej ek
    obtain rfl := r1.int g1
    obtain rfl := r2.int g2
    obtain rfl := r3.int g3
    split at q3
    · rename_i hc
      have hc' := hc
      simp only [rg3Ok, Bool.and_eq_true, decide_eq_true_eq] at hc'
      obtain ⟨h1, h2, h3, h4⟩ := hc'
      refine ⟨i, j, k, _, rfl, ⟨by omega, h2, h3, PyProof.Rows.rangeSize_toNat i j k⟩, q3 _ G3 F3 H3 (e1.trans (e2.trans e3)) g3 its_rng3 ?_⟩
      unfold rgD3 rg3N
      rw [List.length_map, List.length_range, sizeLine_eq]
      exact h4
    · exact q3.elim⟩⟩⟩
end
end DL

set_option Elab.async false
set_option linter.all false
set_option maxRecDepth 100000
set_option maxHeartbeats 1000000
/-! DK3: {k: v} with a plain key, isinstance(x, int), x = l.pop(0), {k: v for ..}. -/
namespace DL
open PySem PySem.Spec L2
open PyProof.Rows hiding St
section
variable {S : SA} {X : Cx} {G F G' F' H H' : Hp} {σ : L2.St} {env : DEnv} {d e : D} {v u : V} {p : Addr} {Q : VK} {m mk mv : DE} {ek ev b x0 : Expr} {pos pp : Pos}
def mDispK (mk mv : DE) : DE := fun env => mk env >>= fun k => mv env >>= fun v => if keyOk false k then .ret (.dct false [(k, v)]) else .fail
theorem qdispK (hk : QB S X ek mk) (hv : QE S X ev mv) : QF S X (.Dict [some ek] [ev] pos) (mDispK mk mv) :=
  pe_weak (pe_disp (pps_cons hk hv pps_nil) rfl rfl (by simp) (by simp)) fun σ H Q ⟨G, F, env, g, q⟩ p hp => by
    obtain ⟨g0, e0⟩ := g.hold hp (.dK [])
    have fp := g.free hp
    have np := g.no hp
    have nfp := g.fg.no np
    refine ⟨_, F, env, g0, M.wp_mono (M.wpb q) fun k q u G1 F1 H1 e1 g1 r1 => ?_⟩
    refine ⟨_, F1, env, g1, M.wp_mono (M.wpb q) fun y q w G2 F2 H2 e2 g2 r2 => ?_⟩
    split at q
    · rename_i hkey
      have e12 := e1.trans e2
      have r1 := r1.rp g1 (keyOk_mut hkey)
      obtain ⟨kk, k1, rfl⟩ := key_of_isKey hkey r1
      have G2p : G2 p = some (.dK []) := e12.at_
      have F2p : F2 p = none := e12.atF nfp
      refine ⟨g2.kp _ _ G2p, [(kk, w)], rfl, by simp, ?_⟩
      have g3 := g2.drop (o' := .dK [(kk, w)]) fp G2p F2p
      exact (show PostF S G F σ env Q _ from q) p _ F2 _ (e12.drop np) g3 (fp.fresh (delH_at _ _) ⟨_, upd_same, .cons k1 r2 .nil, show ([(kk, w)] : List (Key × V)).length ≤ sizeLine from by rw [sizeLine_eq, List.length_singleton]; decide⟩)
    · exact q.elim
/-! ### isinstance(x, int) -/
def dIsInt : D → M D
  | .int _ => .ret (.bl true)
  | .lst _ => .ret (.bl false)
  | _ => .fail
def mIsInt (m : DE) : DE := fun env => m env >>= dIsInt
theorem qisInt {p1 p2 : Pos} (hg : Gl X "isinstance") (hm : X.mg "isinstance" = none) (hg2 : Gl X "int") (hm2 : X.mg "int" = none) (ha : QB S X x0 m)
    (n1 : starEach [x0, .Name "int" p2] X.env = (false, eval x0 X.env) :: starEach [.Name "int" p2] X.env := by rfl)
    (n2 : starEach [.Name "int" p2] X.env = (false, eval (.Name "int" p2) X.env) :: starEach [] X.env := by rfl) (hpl : (backTo pos (starEach [.Name "int" p2] X.env)).any (·.1) = false := by rfl) :
    QE S X (.Call (.Name "isinstance" p1) [x0, .Name "int" p2] [] pos) (mIsInt m) :=
  pe_weak (pe_callB call_isi hg hm (by decide +kernel) (pa_cons ha (pa_cons (pe_bltn hg2 hm2 (by decide +kernel) (show RelV (.ty "int") (.type "int") from rfl)) pa_nil n2) n1) (he := n1) (hpl := hpl)) fun σ H Q ⟨G, F, env, g, q⟩ => ⟨G, F, env, g, M.wp_mono (M.wpb q) fun d q v G1 F1 H1 e1 g1 r1 => by
    cases d with
    | int i =>
      obtain rfl := r1.int g1
      exact ⟨_, _, _, _, true, rfl, .ty "int", .base (.int i), kit_ty (by decide +kernel), q _ G1 F1 H1 e1 g1 (.bl _)⟩
    | lst xs =>
      obtain ⟨a, us, rfl, h1, l1, z1⟩ := r1.lst g1
      exact ⟨_, _, _, _, false, rfl, .ty "int", .base (.lst h1), kit_ty (by decide +kernel), q _ G1 F1 H1 e1 g1 (.bl _)⟩
    | _ => exact q.elim⟩
/-! ### {k: v for ..} -/
def mDcL (gg : DG) (mt : DT) (mk mv : DE) (envw : DEnv) : List D → List (D × D) → M (List (D × D))
  | [], acc => .ret acc
  | d :: ds, acc => gg d envw >>= fun env1 => mt env1 >>= fun k => if k then mk env1 >>= fun y => mv env1 >>= fun z => if keyOk false y then mDcL gg mt mk mv envw ds (putD acc y z) else .fail else mDcL gg mt mk mv envw ds acc
def mDc (vs : List Nat) (mi : DI) (gg : DG) (mt : DT) (mk mv : DE) : DE := fun env => if vs.all (notOwn env) then mi env >>= fun ds => mDcL gg mt mk mv (wipeE env vs) ds [] >>= fun ys => .ret (.dct false ys) else .fail
structure GrowK (S : SA) (G1 F1 : Hp) (σ : L2.St) (env : DEnv) (p : Addr) (H : Hp) (acc : List (D × D)) (n : Nat) (G2 F2 : Hp) : Prop where
  x : Ext G1 F1 G2 F2
  g : Good S G2 F2 σ H env
  no : G2 p = none
  ows : ∀ (i : Nat) (di : D), env[i]? = some (some (.own di)) → σ[i]? ≠ some (some (.ref p))
  at_ : ∃ vs, H p = some (.dK vs) ∧ RpK S F2 acc vs ∧ vs.length ≤ n
  bos : NoBor σ env p
theorem GrowK.start {G1 F1 H1 : Hp} (g : Good S G1 F1 σ H1 env) (hp : H1 p = none) : GrowK S G1 F1 σ env p (upd H1 p (.dK [])) [] 0 G1 F1 :=
  ⟨Ext.refl _ _, g.new hp _, g.no hp, g.ownNe hp, ⟨[], upd_same, .nil, Nat.le_refl _⟩, g.borNe hp⟩
theorem GrowK.blk {G1 F1 : Hp} {acc : List (D × D)} {n : Nat} {G2 F2 : Hp} (w : GrowK S G1 F1 σ env p H acc n G2 F2) (vs : List Nat) (n1 : p ≠ S.sa) (n2 : p ≠ S.ca) : ∃ o, H p = some o ∧ Ext G2 F2 (upd G2 p o) F2 ∧ Good S (upd G2 p o) F2 (wipe σ vs) H (wipeE env vs) := by
  obtain ⟨us, h1, _⟩ := w.at_
  refine ⟨_, h1, ⟨sub_upd w.no, Sub.refl _, fun a h _ => h⟩, ?_⟩
  have g := w.g.wiped vs
  refine ⟨fun a u e => ?_, w.g.fg.trans (sub_upd w.no), g.st, ?_, ?_, g.len, fun i sl e => ?_, g.dist⟩
  · by_cases z : a = p
    · subst z; rw [upd_same] at e; cases e; exact h1
    · rw [upd_ne z] at e; exact g.kp a u e
  · rw [upd_ne n1.symm]; exact g.ns
  · rw [upd_ne n2.symm]; exact g.nc
  · have q := g.slot i sl e
    cases sl with
    | val d => exact q
    | bor d => obtain ⟨u, q1, q2⟩ := q; exact ⟨u, q1, q2.mono (sub_upd w.no) (Sub.refl _)⟩
    | own d =>
      obtain ⟨a, q1, q2, q3⟩ := q
      have hi : i ∉ vs := fun hm => wipeE_in hm e
      have na : a ≠ p := fun z => by
        rw [wipeE_out hi] at e
        rw [wipe_out hi] at q1
        exact w.ows i d e (by rw [q1, z])
      exact ⟨a, q1, by rw [upd_ne na]; exact q2, q3⟩
theorem GrowK.next {G1 F1 : Hp} {acc : List (D × D)} {n : Nat} {G2 F2 G3 F3 H3 : Hp} {σ3 : L2.St} {env3 : DEnv} {o : HO} {vs : List Nat} (w : GrowK S G1 F1 σ env p H acc n G2 F2) (ho : H p = some o) (ok : vs.all (notOwn env) = true)
    (x : Ext (upd G2 p o) F2 G3 F3) (on : Only vs (wipe σ vs) (wipeE env vs) σ3 env3) (g3 : Good S G3 F3 σ3 H3 env3) {k : D} {kk : Key} {y : D} {u : V} (rk : KeyD k kk) (r : Rp S F3 y u) :
    ∃ us, H3 p = some (.dK us) ∧ us.length ≤ n ∧ GrowK S G1 F1 σ env p (upd H3 p (.dK (putK us kk u))) (putD acc k y) (n + 1) (delH G3 p) F3 := by
  obtain ⟨us, h1, h2, h3⟩ := w.at_
  rw [h1] at ho
  cases ho
  have k3 : G3 p = some (.dK us) := x.g _ _ upd_same
  have f2 : F2 p = none := w.g.fg.no w.no
  have f3 : F3 p = none := x.n p f2 (by rw [upd_same]; simp)
  have gb := w.g.back ok on x.f g3
  refine ⟨us, g3.kp _ _ k3, h3, ⟨w.x.trans ⟨fun a u' e => ?_, x.f, fun a e1 e2 => ?_⟩, gb.chg k3 f3 w.bos, ?_, w.ows, ⟨putK us kk u, upd_same, (h2.mono x.f).put rk r, ?_⟩, w.bos⟩⟩
  · have na : a ≠ p := fun z => by rw [z, w.no] at e; cases e
    unfold delH
    rw [if_neg na]
    exact x.g a u' (by rw [upd_ne na]; exact e)
  · exact x.n a e1 (by
      have na : a ≠ p := fun z => e2 (by rw [z]; exact w.no)
      rw [upd_ne na]; exact e2)
  · unfold delH; rw [if_pos rfl]
  · have := putK_le us kk u
    omega
theorem GrowK.skip {G1 F1 : Hp} {acc : List (D × D)} {n : Nat} {G2 F2 G3 F3 H3 : Hp} {σ3 : L2.St} {env3 : DEnv} {o : HO} {vs : List Nat} (w : GrowK S G1 F1 σ env p H acc n G2 F2) (ho : H p = some o) (ok : vs.all (notOwn env) = true)
    (x : Ext (upd G2 p o) F2 G3 F3) (on : Only vs (wipe σ vs) (wipeE env vs) σ3 env3) (g3 : Good S G3 F3 σ3 H3 env3) : GrowK S G1 F1 σ env p H3 acc (n + 1) (delH G3 p) F3 := by
  obtain ⟨us, h1, h2, h3⟩ := w.at_
  rw [h1] at ho
  cases ho
  have k3 : G3 p = some (.dK us) := x.g _ _ upd_same
  have f2 : F2 p = none := w.g.fg.no w.no
  have f3 : F3 p = none := x.n p f2 (by rw [upd_same]; simp)
  have gb := (w.g.back ok on x.f g3).chg (o' := .dK us) k3 f3 w.bos
  have eH : upd H3 p (.dK us) = H3 := by
    funext a
    by_cases z : a = p
    · subst z; rw [upd_same]; exact (g3.kp _ _ k3).symm
    · rw [upd_ne z]
  rw [eH] at gb
  refine ⟨w.x.trans ⟨fun a u' e => ?_, x.f, fun a e1 e2 => ?_⟩, gb, ?_, w.ows, ⟨us, g3.kp _ _ k3, h2.mono x.f, by omega⟩, w.bos⟩
  · have na : a ≠ p := fun z => by rw [z, w.no] at e; cases e
    unfold delH
    rw [if_neg na]
    exact x.g a u' (by rw [upd_ne na]; exact e)
  · exact x.n a e1 (by
      have na : a ≠ p := fun z => e2 (by rw [z]; exact w.no)
      rw [upd_ne na]; exact e2)
  · unfold delH; rw [if_pos rfl]
theorem dc_read {vs : List Nat} {mi : DI} {gg : DG} {mt : DT} (g : Good S G F σ H env) (q : (mDc vs mi gg mt mk mv env).wp (PostF S G F σ env Q)) : tDc (TIx (imComp vs) S mi) (TG_ S vs gg) (TT_ S mt) (TB_ S mk) (TE_ S mv) vs σ H Q := by
  unfold mDc at q
  split at q
  · rename_i ok
    refine ⟨G, F, env, g, ok, M.wp_mono (M.wpb q) fun ds q J G1 F1 H1 e1 g1 its hz => ?_⟩
    intro p hp
    have nst := g1.stNe hp
    refine ⟨fun i m H => m = ds.length - i ∧ i ≤ ds.length ∧ ∃ G2 F2 acc, GrowK S G1 F1 σ env p H acc i G2 F2 ∧ (mDcL gg mt mk mv (wipeE env vs) (ds.drop i) acc).wp (fun ys => PostF S G F σ env Q (.dct false ys)),
      ⟨ds.length, by simp, Nat.zero_le _, G1, F1, [], GrowK.start g1 hp, by rw [List.drop_zero]; exact M.wpb q⟩, ?_⟩
    rintro i m H ⟨rfl, hi, G2, F2, acc, w, q⟩
    have comp : (imComp vs).P F1 σ env F2 σ env := ⟨w.x.f, fun _ _ => ⟨rfl, rfl⟩⟩
    by_cases hlt : i < ds.length
    · obtain ⟨o, ho, xb, gb⟩ := w.blk vs nst.1 nst.2
      have compW : (imComp vs).P F1 σ env F2 (wipe σ vs) (wipeE env vs) := ⟨w.x.f, fun j hj => ⟨wipe_out hj, wipeE_out hj⟩⟩
      refine .inr ⟨its.go i _ _ _ H _ compW gb hlt, fun H => ∃ G2 F2 acc, GrowK S G1 F1 σ env p H acc (i + 1) G2 F2 ∧ (mDcL gg mt mk mv (wipeE env vs) (ds.drop (i + 1)) acc).wp (fun ys => PostF S G F σ env Q (.dct false ys)),
        fun H' h => ⟨ds.length - (i + 1), by omega, rfl, hlt, h⟩, fun x H' y => ?_⟩
      obtain ⟨G3, F3, e3, g3, r3⟩ := its.yld i _ _ _ H _ x H' ds[i] compW gb (by simp [hlt]) y
      rw [List.drop_eq_getElem_cons hlt] at q
      refine ⟨G3, F3, wipeE env vs, ds[i], g3, r3, M.wp_mono (M.wpb q) fun env3 q σ3 o3 g3' => ⟨?_, G3, F3, env3, g3', M.wp_mono (M.wpb q) fun k q G4 F4 H4 e4 g4 => ?_⟩⟩
      · rw [o3.1, wipe_idem]
      · cases k with
        | true =>
          rw [if_pos rfl] at q ⊢
          refine ⟨G4, F4, env3, g4, M.wp_mono (M.wpb q) fun kd q uk G5 F5 H5 e5 g5 r5 => ?_⟩
          refine ⟨G5, F5, env3, g5, M.wp_mono (M.wpb q) fun yd q u G6 F6 H6 e6 g6 r6 => ?_⟩
          split at q
          · rename_i hkey
            have r5 := r5.rp g5 (keyOk_mut hkey)
            obtain ⟨kk, k1, rfl⟩ := key_of_isKey hkey r5
            obtain ⟨us, hus, hul, w'⟩ := w.next ho ok (e3.trans (e4.trans (e5.trans e6))) o3 g6 k1 r6
            exact ⟨us, kk, rfl, hus, by omega, delH G6 p, F6, _, w', q⟩
          · exact q.elim
        | false =>
          rw [if_neg (by decide)] at q ⊢
          exact ⟨delH G4 p, F4, acc, w.skip ho ok (e3.trans e4) o3 g4, q⟩
    · have e : i = ds.length := by omega
      subst e
      rw [List.drop_length] at q
      obtain ⟨us, h1, h2, h3⟩ := w.at_
      refine .inl ⟨its.stop _ G2 F2 σ H env comp w.g (Nat.le_refl _), ?_⟩
      have q' : PostF S G F σ env Q (.dct false acc) := q
      exact q' p G2 F2 H (e1.trans w.x) w.g ⟨w.no, nst.1, nst.2, w.ows, us, h1, h2, by omega⟩
  · exact q.elim
theorem qdc (own : List (Str × Nat)) {kx vx tg iter : Expr} {ifs : List Expr} {scope : Scope} {mi : DI} {gg : DG} {mt : DT} (hN : X.N.Nodup) (hi : QI (imComp (own.map (·.2))) S X tg iter mi) (ok : BlkOk X.N X.env.scope scope own)
    (hg : ∀ (s : Shared) (H : Hp) (C : Addr) (cl : List (Str × Addr)) (fp : List Addr), QG S (own.map (·.2)) (X.blk s H scope (compEnvC scope cl C X.env) fp) tg gg) (ht : ∀ (s : Shared) (H : Hp) (C : Addr) (cl : List (Str × Addr)) (fp : List Addr), QTs S (X.blk s H scope (compEnvC scope cl C X.env) fp) ifs mt)
    (hk : ∀ (s : Shared) (H : Hp) (C : Addr) (cl : List (Str × Addr)) (fp : List Addr), QB S (X.blk s H scope (compEnvC scope cl C X.env) fp) kx mk)
    (he : ∀ (s : Shared) (H : Hp) (C : Addr) (cl : List (Str × Addr)) (fp : List Addr), QE S (X.blk s H scope (compEnvC scope cl C X.env) fp) vx mv) (hc : X.calm = true := by rfl) (hs : ∀ x, foldedSetIterable iter X.env x = pure x := by intro _; rfl) :
    QF S X (.DictComp kx vx [⟨tg, iter, ifs, 0⟩] scope pos) (mDc (own.map (·.2)) mi gg mt mk mv) :=
  pe_weak (pe_dc hc hN hi ok hg ht hk he hs) fun σ H Q ⟨G, F, env, g, q⟩ => dc_read g q
/-! ### x = l.pop(0) -/
def mPop0 (i j : Nat) : DS := fun env => match env[j]? with
  | some (some (.own (.lst (x :: xs)))) => if xs.length < sizeLine then .ret (.nx, (env.set j (some (.own (.lst xs)))).set i (some (.val x))) else .fail
  | _ => .fail
theorem qpop0 (i j : Nat) {x y : Str} {np apos cpos py : Pos} {kc : Nat} {pc : Pos} (hN : X.N.Nodup) (hi : X.N[i]? = some x := by rfl) (hj : X.N[j]? = some y := by rfl) (hx : Loc X.env.scope x := by first | exact Or.inl rfl | exact Or.inr rfl)
    (hv : Vis X.env.scope y := by first | exact Or.inl rfl | exact Or.inr (Or.inl rfl) | exact Or.inr (Or.inr rfl)) (hd : (y == ("__debug__" : Str)) = false := by decide) (hcd : (y == ("__classdict__" : Str)) = false := by decide)
    (n1 : starEach [.Constant (.int 0) kc pc] X.env = (false, eval (.Constant (.int 0) kc pc) X.env) :: starEach [] X.env := by rfl)
    (hbase : attributeBase (.Name y np) "pop" X.env (eval (.Name y np) X.env) = eval (.Name y np) X.env := by rfl)
    (hfew : ((backTo cpos (starEach [.Constant (.int 0) kc pc] X.env)).all (fun x => !x.1) && (backToKw cpos (keywordEach [] X.env)).all (fun x => x.1.isSome)
      && decide ([Expr.Constant (.int 0) kc pc].length + ([] : List Keyword).length + (if ([] : List Keyword).isEmpty then 0 else 1) < 30)) = true := by rfl)
    (hline : (apos.endLine == cpos.line) = true := by rfl) (hplain : (backTo cpos (starEach [] X.env)).any (·.1) = false := by rfl)
    (hs : swapsWith (.Call (.Attribute (.Name y np) "pop" apos) [.Constant (.int 0) kc pc] [] cpos) (some (.Name x py)) pp.line X.env = pure false := by rfl)
    (hf : X.fn x = true ∨ X.env.scope.names.lookup x = some .local := by first | exact .inl rfl | exact .inr rfl) :
    QS S X (.Assign [.Name x py] (.Call (.Attribute (.Name y np) "pop" apos) [.Constant (.int 0) kc pc] [] cpos) pp) (mPop0 i j) :=
  ps_weak (ps_set hN hi hx (pe_bm PySem.F.plainAttrs_list PySem.F.slot_list_pop PySem.F.type_list_pop mt_popAt (pe_var hj hv hd hcd) (pa_cons pe_int pa_nil n1) hbase hfew hline n1 hplain) hs hf) fun D' σ H ⟨G, F, env, g, q⟩ => by
    unfold mPop0 at q
    split at q
    · rename_i d0 ds e
      split at q
      · obtain ⟨a, ha, b2, b3, b4, ow⟩ := g.slot j _ e
        obtain ⟨vs, h1, h2, h3⟩ := ow
        cases h2 with
        | cons r t =>
          rename_i v0 vt
          refine ⟨.ref a, ha, .inl ⟨rfl, _, .of h1⟩, ⟨a, _, 0, 0, v0, rfl, rfl, h1, by decide, by decide, by simp [seqIndex?], rfl, ?_⟩⟩
          have g2 := (g.ownSet (vs := vt) (ds := ds) e ha t (by simp only [List.length_cons] at h3; omega)).setVal (i := i) r
          exact q _ G F _ (Ext.refl _ _) g2
      · exact q.elim
    · exact q.elim
end
end DL

set_option Elab.async false
set_option linter.all false
set_option maxRecDepth 100000
set_option maxHeartbeats 1000000
/-! DK4: items of a dict with plain keys: walked, sorted. -/
namespace DL
open PySem PySem.Spec L2
open PyProof.Rows hiding St
section
variable {S : SA} {X : Cx} {G F G' F' H H' H2 F2 : Hp} {σ : L2.St} {env : DEnv} {d e : D} {v u : V} {p : Addr} {Q : VK} {m : DE}
theorem RpK.get2 : ∀ {kvs : List (D × D)} {es : List (Key × V)} {i : Nat} {x : D × D}, RpK S F kvs es → kvs[i]? = some x → ∃ k v, es[i]? = some (k, v) ∧ KeyD x.1 k ∧ Rp S F x.2 v
  | _, _, _, _, .nil, e => by simp at e
  | _, _, 0, x, .cons (k := k) (v := v) a r _, e => by simp at e; subst e; exact ⟨k, v, rfl, a, r⟩
  | _, _, i + 1, x, .cons _ _ t, e => by
    obtain ⟨k, v, h1, h2⟩ := RpK.get2 (i := i) (x := x) t (by simpa using e)
    exact ⟨k, v, by simpa using h1, h2⟩
theorem its_itemsK {I : IM} (O : IMSub I) {kvs : List (D × D)} {es : List (Key × V)} {a : Addr} {o : Obj} (f : F' a = some (.frz o (.dK es))) (r : RpK S F' kvs es) : ItsD S (Iti a o es) (I.P F' σ env) (kvs.map pairD) where
  go := fun i G2 F2 σ2 H2 env2 hp g hi => ⟨g.fh _ _ (O.sub hp _ _ f), by rw [← r.ln]; simpa using hi⟩
  stop := fun i G2 F2 σ2 H2 env2 hp g hi => ⟨g.fh _ _ (O.sub hp _ _ f), by rw [← r.ln]; simpa using hi⟩
  yld := fun i G2 F2 σ2 H2 env2 x H3 d hp g hd y => by
    obtain ⟨T, k, v, h1, rfl, nT, rfl⟩ := y
    rw [List.getElem?_map, Option.map_eq_some_iff] at hd
    obtain ⟨p, hp1, rfl⟩ := hd
    obtain ⟨k', v', h2, h3, h4⟩ := r.get2 hp1
    rw [h1] at h2
    cases h2
    obtain ⟨x3, g3⟩ := g.newFrz nT (.tup [kV k, v])
    exact ⟨_, _, x3, g3, .tup upd_same (.cons (keyD_rp h3) (.cons ((h4.mono (O.sub hp)).mono x3.f) .nil)) (by show 2 ≤ sizeLine; decide)⟩
def iItemsK (m : DE) : DI := fun env => m env >>= fun d => match d with
  | .dct false kvs => .ret (kvs.map pairD)
  | _ => .fail
theorem qi_itemsK {I : IM} (O : IMSub I) {elts : List Expr} {kk : Nat} {tpos apos cpos : Pos} {l : Expr} (hl : QE S X l m) (hbase : attributeBase l "items" X.env (eval l X.env) = eval l X.env := by rfl) (hline : (apos.endLine == cpos.line) = true := by rfl) :
    QI I S X (.Tuple elts kk tpos) (.Call (.Attribute l "items" apos) [] [] cpos) (iItemsK m) :=
  pi_weak (pi_items hl hbase hline) fun σ H R ⟨G, F, env, g, ok, q⟩ => ⟨G, F, env, g, M.wp_mono (M.wpb q) fun d q v G1 F1 H1 e1 g1 r1 => by
    cases d with
    | dct t kvs =>
      cases t with
      | true => exact q.elim
      | false =>
        cases r1 with
        | dctK h1 h2 h3 =>
          rename_i a o es
          exact ⟨a, o, es, rfl, g1.fh _ _ h1, q _ G1 F1 H1 e1 g1 (its_itemsK O h1 h2) (by rw [List.length_map, h2.ln]; exact h3)⟩
    | _ => exact q.elim⟩
/-! ### sorted(d.items()) -/
theorem dk_raw {P : Program} {w : World} {h : Heap} {a : Addr} {kvs : List (Key × Value)} (dd : h.DictOf (mixKind P w) a kvs) : ∃ es ep, DT.Raw h a es ep ∧ es.size = kvs.length ∧ ∀ (j : Nat) en, es[j]? = some en → ∃ k x, kvs[j]? = some (k, x) ∧ keyIs k en.key = true ∧ en.val = x := by
  obtain ⟨o, es, ep, h1, h2, h3, h4, h5, h6⟩ := dd
  have key : ∀ {es : List DictEntry} {kvs : List (Key × Value)}, PySem.Pairs (mixKind P w) es kvs → es.length = kvs.length ∧ ∀ (j : Nat) en, es[j]? = some en → ∃ k x, kvs[j]? = some (k, x) ∧ keyIs k en.key = true ∧ en.val = x := by
    intro es kvs r
    induction r with
    | nil => exact ⟨rfl, fun j en e => by simp at e⟩
    | @cons e kv es kvs a b c ih =>
      refine ⟨by rw [List.length_cons, List.length_cons, ih.1], fun j en h => ?_⟩
      cases j with
      | zero =>
        simp only [List.getElem?_cons_zero, Option.some.injEq] at h
        subst h
        exact ⟨kv.1, kv.2, rfl, a, b⟩
      | succ j =>
        obtain ⟨k, x, q1, q2⟩ := ih.2 j en (by simpa using h)
        exact ⟨k, x, by simpa using q1, q2⟩
  obtain ⟨k1, k2⟩ := key h5
  exact ⟨es, ep, ⟨o, h1, h2, h3⟩, by rw [← k1]; simp, fun j en e => k2 j en (by rw [Array.getElem?_toList]; exact e)⟩
def rItemsK : V → List V → Hp → VK → Prop := fun x xs H Q => ∃ (a : Addr) (kvs : List (Key × V)), x = .ref a ∧ xs = [] ∧ Rd H a (.dK kvs) ∧ ∀ p, H p = none → Q (.ref p) (upd H p (DX.itemsO p a))
theorem mt_itemsK : MtR X "dict.items" rItemsK := by
  intro pins s σ H x xs v us Q I rx rxs h
  obtain ⟨a, kvs, rfl, rfl, ha, q⟩ := h
  cases rx
  cases rxs
  obtain ⟨z, hd, vs, rel, dd⟩ := dk_rd I.hok ha
  obtain ⟨es, ep, raw, _, _⟩ := dk_raw dd
  refine DT.callItems (es := es) (ep := ep) hd raw ?_
  have hf : H s.heap.objs.size = none := I.hok.fresh (Nat.le_refl _)
  exact ⟨.ref s.heap.objs.size, upd H s.heap.objs.size (DX.itemsO s.heap.objs.size a), I.laid (t' := s.toks) (fun b u e => Heap.get?_push_of_some _ e) (Nat.le_refl _) (DX.itemsO_ok (Heap.get?_push_size _ rfl)), rfl, q _ hf⟩
/-- new things that are read from now on -/
theorem Good.more (g : Good S G F σ H env) (hk : Sub H H2) (sf : Sub F F2) (sh : Sub F2 H2) (nw : ∀ b, F2 b = F b ∨ H b = none) : ∃ G2, Ext G F G2 F2 ∧ Good S G2 F2 σ H2 env := by
  have hG : ∀ b o, G b = some o → H b = some o := g.kp
  have gg : Sub G (fun b => match F2 b with | some o => some o | none => G b) := fun b o e => by
    show (match F2 b with | some o => some o | none => G b) = some o
    rcases nw b with h | h
    · rw [h]
      cases hf : F b with
      | none => exact e
      | some o' =>
        have := g.fg _ _ hf
        rw [this] at e
        exact e
    · rw [hG b o e] at h; cases h
  refine ⟨fun b => match F2 b with | some o => some o | none => G b, ⟨gg, sf, fun a h h' => ?_⟩, ⟨fun a u e => ?_, fun a u e => ?_, ?_, ?_, ?_, g.len, fun i sl e => ?_, g.dist⟩⟩
  · rcases nw a with z | z
    · rw [z]; exact h
    · exact absurd (g.no z) h'
  · have e : (match F2 a with | some o => some o | none => G a) = some u := e
    split at e
    · rename_i o h; rw [← e]; exact sh _ _ h
    · exact hk _ _ (hG _ _ e)
  · show (match F2 a with | some o => some o | none => G a) = some u
    rw [e]
  · obtain ⟨h0, n, cs, h1, h2, h3⟩ := g.st
    exact ⟨h0, n, cs, hk _ _ h1, hk _ _ h2, h3⟩
  · obtain ⟨h0, n, cs, h1, h2, h3⟩ := g.st
    have e : F2 S.sa = none := by
      rcases nw S.sa with z | z
      · rw [z]; exact g.fsa
      · rw [h1] at z; cases z
    show (match F2 S.sa with | some o => some o | none => G S.sa) = none
    rw [e]; exact g.ns
  · obtain ⟨h0, n, cs, h1, h2, h3⟩ := g.st
    have e : F2 S.ca = none := by
      rcases nw S.ca with z | z
      · rw [z]; exact g.fca
      · rw [h2] at z; cases z
    show (match F2 S.ca with | some o => some o | none => G S.ca) = none
    rw [e]; exact g.nc
  · have q := g.slot i sl e
    cases sl with
    | val d => obtain ⟨v, h1, h2⟩ := q; exact ⟨v, h1, h2.mono sf⟩
    | bor d => obtain ⟨v, h1, h2⟩ := q; exact ⟨v, h1, h2.mono gg sf⟩
    | own d =>
      obtain ⟨a, h1, h2, h3, h4, h5⟩ := q
      obtain ⟨o, ho⟩ := ownR_some h5
      have ef : F2 a = none := by
        rcases nw a with z | z
        · rw [z]; exact g.fg.no h2
        · rw [ho] at z; cases z
      refine ⟨a, h1, ?_, h3, h4, ownR_mono sf (fun o z => hk _ _ z) h5⟩
      show (match F2 a with | some o => some o | none => G a) = none
      rw [ef]; exact h2
def rSortItK (K : PySem.W.Frag) (S : SA) : List V → Hp → VK → Prop := fun vs H Q => ∃ (p a : Addr) (es : List (Key × V)) (kvs : List (D × D)) (F : Hp), vs = [.ref p] ∧ H p = some (DX.itemsO p a) ∧ Rd H a (.dK es) ∧ Sub F H ∧ RpK S F kvs es ∧ srtOk (kvs.map pairD) = true ∧
  ∀ (H2 F2 : Hp) (l : Addr) (ys : List V), Sub H H2 → Sub F F2 → Sub F2 H2 → (∀ b, F2 b = F b ∨ H b = none) → RpL S F2 (sortD (kvs.map pairD)) ys → ys.length ≤ sizeLine → H2 l = none → H l = none → Q (.ref l) (upd H2 l (.lst ys))
theorem cr_sortItK (hc : X.calm = true) (hu : X.A.units + 64 < cLine) : CallR X (.builtin "sorted") (rSortItK X.K S) := by
  intro pins s σ H xs us Q I r h
  obtain ⟨p, a, es, kvs, F, rfl, hp, ha, sub, rk, ho, q⟩ := h
  obtain rfl := Vals.ref1 r
  have view : s.heap.IsItemsView p a := (show ObjOk X.prog X.w H s.heap p (DX.itemsO p a) from I.hok p _ hp).1
  obtain ⟨z, hd, vs, rel, dd⟩ := dk_rd I.hok ha
  obtain ⟨as0, ep, raw, sz, ent⟩ := dk_raw dd
  have hlen : es.length = vs.length := rel.length
  have hh : X.A.handled = none := I.ok.hd hc
  refine DT.sortedI (es := as0) (ep := ep) hh view raw (by omega) fun h' tk as hk hlt hl hG => ?_
  have lak : as.length = kvs.length := by have := rk.ln; omega
  have nd : as.Nodup := List.Pairwise.imp (fun h => Nat.ne_of_lt h) hG.rise
  -- the pairs that were made
  have pr : ∀ (j : Nat) (b : Addr), as[j]? = some b → ∃ (k : Key) (v : V) (key x : Value), es[j]? = some (k, v) ∧ keyIs k key = true ∧ RelV v x ∧ h'.get? b = some { cls := .type "tuple", data := .seq #[key, x] } := by
    intro j b hj
    obtain ⟨en, he, hg⟩ := hG.pairs j b hj
    obtain ⟨k, x, h1, h2, h3⟩ := ent j en he
    obtain ⟨e0, he0, r1, r2⟩ := DX.pget rel h1
    exact ⟨e0.1, e0.2, en.key, en.val, he0, by rw [r1]; exact h2, by rw [h3]; exact r2, hg⟩
  have I1 : Inv X pins σ H { s with heap := h', toks := tk } := I.kept (t' := tk) hk
  obtain ⟨H2, I2, g2, qt⟩ := DX.takeT (P := fun b ws => ∃ (j : Nat) (k : Key) (v : V), as[j]? = some b ∧ es[j]? = some (k, v) ∧ ws = [kV k, v]) I as H I1 nd fun b hb => by
    obtain ⟨j, hj⟩ := List.mem_iff_getElem?.mp hb
    obtain ⟨k, v, key, x, he, hkey, hx, hg⟩ := pr j b hj
    have hbl : s.heap.objs.size ≤ b := Nat.le_of_lt (hG.above b hb)
    exact ⟨hbl, I.hok.fresh hbl, _, ⟨j, k, v, hj, he, rfl⟩, fun H3 => ⟨by show 2 ≤ sizeLine; decide, [key, x], .cons (keyIs_rel hkey) (.cons hx .nil), ⟨_, hg, rfl, 0, rfl⟩⟩⟩
  have nb : ∀ b ∈ as, H b = none := fun b hb => I.hok.fresh (Nat.le_of_lt (hG.above b hb))
  -- what is read
  have sf : Sub F (fun b => if b ∈ as then H2 b else F b) := fun b o e => by
    show (if b ∈ as then H2 b else F b) = some o
    by_cases hb : b ∈ as
    · have := nb b hb
      rw [sub _ _ e] at this; cases this
    · rw [if_neg hb]; exact e
  have sh : Sub (fun b => if b ∈ as then H2 b else F b) H2 := fun b o e => by
    have e : (if b ∈ as then H2 b else F b) = some o := e
    by_cases hb : b ∈ as
    · rw [if_pos hb] at e; exact e
    · rw [if_neg hb] at e; exact g2 _ _ (sub _ _ e)
  have nw : ∀ b, (fun b => if b ∈ as then H2 b else F b) b = F b ∨ H b = none := fun b => by
    by_cases hb : b ∈ as
    · exact .inr (nb b hb)
    · exact .inl (if_neg hb)
  have rp : RpL S (fun b => if b ∈ as then H2 b else F b) (kvs.map pairD) (as.map V.ref) := by
    have hz : (as.zip kvs).map (fun z => (V.ref z.1, pairD z.2)) = ((as.map V.ref).zip (kvs.map pairD)) := by
      rw [List.zip_map]; rfl
    have e1 : ((as.zip kvs).map (fun z => (V.ref z.1, pairD z.2))).map (·.2) = kvs.map pairD := by
      rw [hz, List.map_snd_zip (by simp; omega)]
    have e2 : ((as.zip kvs).map (fun z => (V.ref z.1, pairD z.2))).map (·.1) = as.map V.ref := by
      rw [hz, List.map_fst_zip (by simp; omega)]
    rw [← e1, ← e2]
    refine RpL.of_mem fun y hy => ?_
    obtain ⟨z0, hz0, rfl⟩ := List.mem_map.mp hy
    obtain ⟨i, hi⟩ := List.mem_iff_getElem?.mp hz0
    obtain ⟨i1, i2⟩ := List.getElem?_zip_eq_some.mp hi
    obtain ⟨ws, ⟨j, k, v, j1, j2, ev⟩, hH⟩ := qt z0.1 (List.mem_of_getElem? i1)
    have eij : i = j := (List.getElem?_inj (List.getElem?_eq_some_iff.mp i1).1 nd).mp (i1.trans j1.symm)
    subst eij
    obtain ⟨k', v', h2, h3, h4⟩ := rk.get2 i2
    rw [j2] at h2
    cases h2
    subst ev
    have hF : (if z0.1 ∈ as then H2 z0.1 else F z0.1) = some (.tup [kV k, v]) := by
      rw [if_pos (List.mem_of_getElem? i1)]; exact hH
    exact .tup hF (.cons (keyD_rp h3) (.cons (h4.mono sf) .nil)) (by show 2 ≤ sizeLine; decide)
  generalize (fun b => if b ∈ as then H2 b else F b) = F2 at sf sh rp nw
  have hpl : D.plL 60 (kvs.map pairD) = true := by
    unfold srtOk at ho; simp only [Bool.and_eq_true] at ho; exact ho.1.1
  have hdp : DpAll X.K H2 (as.map V.ref) (D.pyL (kvs.map pairD)) := (RpL.dp (K := X.K) sh 60 _ hpl rp).1
  have rv : Vals (as.map V.ref) (as.map Value.ref) := vals_maps V.ref Value.ref as fun _ _ => rfl
  have hyl : (as.map V.ref).length = (kvs.map pairD).length := by rw [List.length_map, List.length_map]; exact lak
  have zas : (as.map V.ref).length ≤ sizeLine := by rw [List.length_map, lak, rk.ln]; exact z
  have hoL : (h'.push (seqObj "list" (as.map Value.ref).toArray 0)).get? h'.objs.size = some (seqObj "list" (as.map Value.ref).toArray 0) := Heap.get?_push_size _ rfl
  obtain ⟨ads, hr⟩ := Dp.readsAll I2 (D.pyL (kvs.map pairD)) (as.map V.ref) (as.map Value.ref) hdp rv
  have er0 := each_fresh (a := h'.objs.size) (by
    cases hg : h'.get? h'.objs.size with
    | none => rfl
    | some ob => exact absurd (Heap.lt_size hg) (Nat.lt_irrefl _)) (each_reads hr hyl)
  have er : PySem.W.EachIs (fun (u : Value) (p : V × D) => ∃ as0, Reads (h'.push (seqObj "list" (List.map Value.ref as).toArray 0)) u p.2.py as0 ∧ h'.objs.size ∉ as0) (as.map Value.ref) ((as.map V.ref).zip (kvs.map pairD)) := er0.mono fun u p ⟨as0, r, n⟩ => ⟨as0, PyProof.Rows.Reads.keeps (fun _ _ e => Heap.get?_push_of_some _ e) r, n⟩
  have hb := zip_snd (as.map V.ref) (kvs.map pairD) hyl
  have hm : ((as.map V.ref).zip (kvs.map pairD)).map (fun p : V × D => p.2.py) = (kvs.map pairD).map D.py := by
    conv => rhs; rw [← hb]
    rw [List.map_map] <;> rfl
  have hlz : ((as.map V.ref).zip (kvs.map pairD)).length ≤ sizeLine := by rw [List.length_zip, hyl, Nat.min_self, ← hyl]; exact zas
  refine PySem.W.list_sort_data (s := { s with heap := h'.push (seqObj "list" (List.map Value.ref as).toArray 0), toks := tk }) (enc := fun p : V × D => p.2.py) (vs := as.map Value.ref) hoL (each_zip (K := X.K) rv hyl) er (by rw [hm]; exact srt_alike ho) (by rw [hm]; exact srt_sortable ho)
    hlz (fun b hb' => ?_) fun out e1 e2 => ?_
  · have : b.2 ∈ kvs.map pairD := by rw [← hb]; exact List.mem_map.mpr ⟨b, hb', rfl⟩
    have h60 := D.dep 60 b.2 (srtOk_pl ho _ this)
    simp only [Around.in1_units]
    omega
  · have hp2 := List.mergeSort_perm ((as.map V.ref).zip (kvs.map pairD)) (PySem.W.dataLe false fun p : V × D => p.2.py)
    obtain ⟨ep2, he'⟩ := PyProof.Rows.sortedHeap_at (vs := as.map Value.ref) (out := out.toArray) hoL
    have hl2 : ((((as.map V.ref).zip (kvs.map pairD)).mergeSort (PySem.W.dataLe false fun p : V × D => p.2.py)).map (·.1)).length ≤ sizeLine := by
      rw [List.length_map, hp2.length_eq]; exact hlz
    have hn2 : H2 h'.objs.size = none := I2.hok.fresh (Nat.le_refl _)
    have hrp : RpL S F2 (sortD (kvs.map pairD)) ((((as.map V.ref).zip (kvs.map pairD)).mergeSort (PySem.W.dataLe false fun p : V × D => p.2.py)).map (·.1)) := by
      rw [← srtd_merge (kvs.map pairD) _ hb ho]
      exact RpL.of_mem fun z hz => rp.zip_mem z (hp2.mem_iff.mp hz)
    refine ⟨.ref h'.objs.size, upd H2 h'.objs.size (.lst ((((as.map V.ref).zip (kvs.map pairD)).mergeSort (PySem.W.dataLe false fun p : V × D => p.2.py)).map (·.1))), I2.laid (t' := tk) (fun b u e => ?_) (Nat.le_refl _) ⟨hl2, out, ep2, each_vals e2, he'⟩, rfl,
      q H2 F2 _ _ g2 sf sh nw hrp hl2 hn2 (by
        cases hh0 : H h'.objs.size with
        | none => rfl
        | some o => rw [g2 _ _ hh0] at hn2; cases hn2)⟩
    have hbl : b < h'.objs.size := Heap.lt_size e
    rw [PyProof.Rows.sortedHeap_old (Nat.ne_of_lt hbl) (by rw [size_push']; exact Nat.lt_succ_of_lt hbl)]
    exact Heap.get?_push_of_some _ e
def mSortIt (i : Nat) : DE := fun env => match env[i]? with
  | some (some (.own (.dct false kvs))) => if srtOk (kvs.map pairD) then .ret (.lst (sortD (kvs.map pairD))) else .fail
  | _ => .fail
end
section
variable {S : SA} {X : Cx}
theorem qsortIt (i : Nat) {x : Str} {np p1 apos cpos pos : Pos} (hc : X.calm = true) (hu : X.A.units + 64 < cLine) (hg : Gl X "sorted") (hm : X.mg "sorted" = none)
    (hN : X.N[i]? = some x := by rfl) (hv : Vis X.env.scope x := by first | exact Or.inl rfl | exact Or.inr (Or.inl rfl) | exact Or.inr (Or.inr rfl)) (hd : (x == ("__debug__" : Str)) = false := by decide) (hcd : (x == ("__classdict__" : Str)) = false := by decide)
    (hbase : attributeBase (.Name x np) "items" X.env (eval (.Name x np) X.env) = eval (.Name x np) X.env := by rfl) (hline : (apos.endLine == cpos.line) = true := by rfl)
    (n1 : starEach [.Call (.Attribute (.Name x np) "items" apos) [] [] cpos] X.env = (false, eval (.Call (.Attribute (.Name x np) "items" apos) [] [] cpos) X.env) :: starEach [] X.env := by rfl) (hpl : (backTo pos (starEach [] X.env)).any (·.1) = false := by rfl) :
    QF S X (.Call (.Name "sorted" p1) [.Call (.Attribute (.Name x np) "items" apos) [] [] cpos] [] pos) (mSortIt i) :=
  pe_weak (pe_callB (cr_sortItK (S := S) hc hu) hg hm (by decide +kernel) (pa_cons (pe_bm0 PySem.F.plainAttrs_dict PySem.F.slot_dict_items PySem.F.type_dict_items mt_itemsK (pe_var hN hv hd hcd) hbase hline) pa_nil n1) (he := n1) (hpl := hpl)) fun σ H Q ⟨G, F, env, g, q⟩ => by
    unfold mSortIt at q
    split at q
    · rename_i kvs e
      split at q
      · rename_i ho
        obtain ⟨a, ha, _, _, _, es, h1, h2, h3⟩ := g.slot i _ e
        refine ⟨.ref a, ha, .inr (.inr (.inl ⟨rfl, .inl ⟨_, h1⟩⟩)), a, es, rfl, rfl, .inl h1, fun p hp => ?_⟩
        have gp := g.new hp (DX.itemsO p a)
        have hs : Sub H (upd H p (DX.itemsO p a)) := sub_upd hp
        refine ⟨p, a, es, kvs, F, rfl, upd_same, .inl (hs _ _ h1), gp.fh, h2, ho, fun H2 F2 l ys k1 k2 k3 k4 k5 k6 k7 k8 => ?_⟩
        obtain ⟨G2, x2, g2⟩ := gp.more k1 k2 k3 k4
        exact PostF.lst (show PostF S G2 F2 σ env Q (.lst (sortD (kvs.map pairD))) from postF_shift x2 q) g2 k7 k5 k6
      · exact q.elim
    · exact q.elim
end
end DL

set_option Elab.async false
set_option linter.all false
set_option maxRecDepth 100000
set_option maxHeartbeats 1000000
/-! DK5: k in d, k not in d, d a dict with nested keys. -/
namespace DL
open PySem PySem.Spec L2
open PyProof.Rows hiding St
section
variable {S : SA} {X : Cx} {G F H : Hp} {σ : L2.St} {env : DEnv}
def rInN (P : Program) (w : World) (neg : Bool) : R2 := fun x y H Q => ∃ a o, y = .ref a ∧ DGetN P w H a x o ∧ Q (.bl (if neg then !o.isSome else o.isSome)) H
theorem op_inN0 (hu : X.A.units + 64 < cLine) : OpR X (compareOp .In) (rInN X.prog X.w false) := by
  intro pins s σ H x y v u Q I rx ry h
  obtain ⟨a, o, rfl, ⟨es, k, b, e, ks, ey, ek, kd, l⟩, q⟩ := h
  cases ry
  subst ey
  cases (show v = Value.ref b from rx)
  obtain ⟨z, hd, xs, rel, dd⟩ := dn_rd I.hok e ks
  refine wpAny_in_heap (knd := nestedKind X.prog X.w) (show X.A.in1.units + 8 < cLine by simp only [Around.in1_units]; omega) ⟨ek.is I.hok rfl, kd⟩ hd dd ?_
  have q1 := (rel.val k).isSome_eq
  rw [Option.isSome_map] at q1
  rw [← q1, ← l]
  exact ⟨.bl _, H, I.tok _, rfl, q⟩
theorem op_notInN0 (hu : X.A.units + 64 < cLine) : OpR X (compareOp .NotIn) (rInN X.prog X.w true) := by
  intro pins s σ H x y v u Q I rx ry h
  obtain ⟨a, o, rfl, ⟨es, k, b, e, ks, ey, ek, kd, l⟩, q⟩ := h
  cases ry
  subst ey
  cases (show v = Value.ref b from rx)
  obtain ⟨z, hd, xs, rel, dd⟩ := dn_rd I.hok e ks
  refine wpAny_notIn_heap (knd := nestedKind X.prog X.w) (show X.A.in1.units + 8 < cLine by simp only [Around.in1_units]; omega) ⟨ek.is I.hok rfl, kd⟩ hd dd ?_
  have q1 := (rel.val k).isSome_eq
  rw [Option.isSome_map] at q1
  rw [← q1, ← l]
  exact ⟨.bl _, H, I.tok _, rfl, q⟩
def dInN (neg : Bool) : D → D → M D
  | x, .dcn kvs => if keyOkN x then .ret (.bl (if neg then !(valD kvs x).isSome else (valD kvs x).isSome)) else .fail
  | _, _ => .fail
theorem in_n {neg : Bool} {op : CmpOp} (hS : S.pr = X.prog ∧ S.wd = X.w) (h : OpR X (compareOp op) (rInN X.prog X.w neg)) : OpD S X (compareOp op) (dInN neg) := by
  refine ⟨_, h, fun G F σ H env x y d e Q g r1 r2 q => ?_⟩
  unfold dInN at q
  split at q
  · rename_i kvs
    split at q
    · obtain ⟨a, o, e1, e2, _, e3⟩ := dgetN_of g r2 r1 (by assumption)
      exact ⟨a, o, e1, by rw [← hS.1, ← hS.2]; exact e2, by rw [e3.isSome]; exact Post.now q g (.bl _)⟩
    · exact q.elim
  · exact q.elim
theorem o_inN (hS : S.pr = X.prog ∧ S.wd = X.w) (hu : X.A.units + 64 < cLine) : OpD S X (compareOp .In) (dInN false) := in_n hS (op_inN0 hu)
theorem o_notInN (hS : S.pr = X.prog ∧ S.wd = X.w) (hu : X.A.units + 64 < cLine) : OpD S X (compareOp .NotIn) (dInN true) := in_n hS (op_notInN0 hu)
end
end DL

set_option Elab.async false
set_option linter.all false
set_option maxRecDepth 100000
/-! DL13: a law's own state and draws. -/
namespace DL
open PySem PySem.Spec L2
open PyProof.Rows hiding St

abbrev rModI : R2 := rI (fun _ j => 0 < j) fun i j => .int (i % j)
abbrev rFdI : R2 := rI CDiv fun i j => .int (i / j)
abbrev rAddI : R2 := rI0 fun i j => .int (i + j)
abbrev rMulI : R2 := rI CMul fun i j => .int (i * j)
abbrev rGeI : R2 := rI0 fun i j => .bl (decide (j ≤ i))
abbrev rLenX (K : PySem.W.Frag) : List V → Hp → VK → Prop := fun xs H Q => ∃ x n, xs = [x] ∧ LenV K x H n ∧ Q (.int (n : Nat)) H
abbrev rIntX : List V → Hp → VK → Prop := fun xs H Q => (∃ i, xs = [V.int i] ∧ Q (V.int i) H) ∨ ∃ k : Bool, xs = [V.bl k] ∧ Q (V.int (if k = true then 1 else 0)) H
theorem ixN_at {n j : Nat} (hj : j < n) : ixN n (j : Int) = some j := by
  unfold ixN
  rw [if_pos (by omega), if_pos (by omega)]
  simp
def tTake (K : PySem.W.Frag) : TS :=
  tSeq (tAsg (tOp (rIx K) (tVar 0) (tC (.int 1))) (gName 2))
  (tSeq (tAsg (tOp rModI (tOp (rIx K) (tVar 0) (tC (.int 0))) (tCB (rLenX K) (tCons (tVar 2) tNil))) (gName 3))
  (tSeq (tAsg (tOp (rIx K) (tVar 2) (tVar 3)) (gName 4))
  (tSeq (tIfS (tTest (tOp rGeI (tVar 4) (tC (.int 1000000000000000000)))) (tSeq (tAsg (tOp rFdI (tVar 4) (tVar 1)) (gSub (tVar 2) (tVar 3) rSetL)) (tRet (tOp rModI (tVar 4) (tVar 1)))) tNext)
  (tSeq (tAsg (tOp rAddI (tOp (rIx K) (tVar 0) (tC (.int 0))) (tC (.int 1))) (gSub (tVar 0) (tC (.int 0)) rSetL))
  (tSeq (tAsg (tOp rModI (tCB rIntX (tCons (tOp rAddI (tOp rMulI (tVar 4) (tC (.int 48271))) (tOp rMulI (tOp (rIx K) (tVar 0) (tC (.int 0))) (tC (.int 69621)))) tNil)) (tC (.int 2147483647))) (gName 5))
  (tSeq (tAsg (tOp rModI (tCB rIntX (tCons (tOp rAddI (tOp rMulI (tVar 5) (tC (.int 16807))) (tOp rMulI (tOp (rIx K) (tVar 0) (tC (.int 0))) (tC (.int 7919)))) tNil)) (tC (.int 1000000007))) (gName 5))
  (tRet (tOp rModI (tOp rFdI (tVar 5) (tC (.int 7))) (tVar 1)))))))))
theorem take_run {K : PySem.W.Frag} {S : SA} {vs : List V} {H : Hp} {Q : VK} {E : XK} (h : spTake S vs H Q E) : tTake K { nx := fun _ H' => Q .non H', rt := Q } (L2.start ["state", "most", "cells", "at", "cell", "mixed"] vs) H := by
  obtain ⟨k, rfl, k0, k1, ⟨hne, m, cs, h1, h2, h3⟩, q⟩ := h
  have hl : (0 : Int) < ((cs.map V.int).length : Int) := by rw [List.length_map]; omega
  refine ⟨_, rfl, .inl ⟨S.sa, _, _, _, rfl, rfl, .of h1, rfl, ?_⟩⟩
  refine ⟨_, rfl, .inl ⟨S.sa, _, _, _, rfl, rfl, .of h1, rfl, _, rfl, _, _, rfl, .inl ⟨_, .of h2, rfl⟩, (m : Int), _, rfl, rfl, hl, ?_⟩⟩
  obtain ⟨j, hj, ej⟩ : ∃ j : Nat, j < cs.length ∧ (m : Int) % ((cs.map V.int).length : Int) = (j : Int) := by
    rw [List.length_map]
    refine ⟨m % cs.length, Nat.mod_lt _ h3, by omega⟩
  show gName 3 (V.int ((m : Int) % ((cs.map V.int).length : Int))) _ _ _
  rw [ej]
  have hc : (cs.map V.int)[j]? = some (.int cs[j]) := by rw [List.getElem?_map, List.getElem?_eq_getElem hj]; rfl
  refine ⟨_, rfl, _, rfl, .inl ⟨S.ca, _, _, _, rfl, rfl, .of h2, (atI_nat hc), ?_⟩⟩
  refine ⟨_, rfl, _, _, rfl, rfl, _, rfl, ?_⟩
  by_cases hb : (1000000000000000000 : Int) ≤ cs[j]
  · have e : decide ((1000000000000000000 : Int) ≤ cs[j]) = true := decide_eq_true hb
    rw [e]
    refine L2.iteT ?_
    refine ⟨_, rfl, _, rfl, _, _, rfl, rfl, ⟨k0, by omega⟩, _, rfl, _, rfl, S.ca, _, _, j, rfl, rfl, h2, (ixN_at (by rw [List.length_map]; exact hj)), ?_⟩
    refine ⟨_, rfl, _, rfl, _, _, rfl, rfl, k0, ?_⟩
    refine q _ _ (Int.emod_nonneg _ (by omega)) (Int.emod_lt_of_pos _ k0) ⟨hne, m, cs.set j (cs[j] / k), ?_, ?_, ?_⟩ fun a n1 n2 => by rw [upd_ne n2]
    · rw [upd_ne hne]; exact h1
    · rw [upd_same, List.map_set]
    · rw [List.length_set]; exact h3
  · have e : decide ((1000000000000000000 : Int) ≤ cs[j]) = false := decide_eq_false hb
    rw [e]
    refine L2.iteF ?_
    refine ⟨_, rfl, .inl ⟨S.sa, _, _, _, rfl, rfl, .of h1, rfl, _, _, rfl, rfl, _, rfl, S.sa, _, _, 0, rfl, rfl, h1, rfl, ?_⟩⟩
    have h1' : upd H S.sa (.lst ([V.int (m : Int), V.ref S.ca].set 0 (V.int ((m : Int) + 1)))) S.sa = some (.lst [V.int ((m : Int) + 1), V.ref S.ca]) := upd_same
    refine ⟨_, rfl, _, _, rfl, rfl, .inr (by omega), _, rfl, .inl ⟨S.sa, _, _, _, rfl, rfl, .of h1', rfl, _, _, rfl, rfl, .inr (by omega), _, _, rfl, rfl, .inl ⟨_, rfl, _, _, rfl, rfl, by omega, ?_⟩⟩⟩
    refine ⟨_, rfl, _, _, rfl, rfl, .inr (by omega), _, rfl, .inl ⟨S.sa, _, _, _, rfl, rfl, .of h1', rfl, _, _, rfl, rfl, .inr (by omega), _, _, rfl, rfl, .inl ⟨_, rfl, _, _, rfl, rfl, by omega, ?_⟩⟩⟩
    refine ⟨_, rfl, _, _, rfl, rfl, ⟨by omega, by omega⟩, _, rfl, _, _, rfl, rfl, k0, ?_⟩
    refine q _ _ (Int.emod_nonneg _ (by omega)) (Int.emod_lt_of_pos _ k0) ⟨hne, m + 1, cs, ?_, ?_, h3⟩ fun a n1 n2 => by rw [upd_ne n1]
    · rw [upd_same]; rfl
    · rw [upd_ne hne.symm]; exact h2

abbrev rAbsX : List V → Hp → VK → Prop := fun xs H Q => ∃ i, xs = [V.int i] ∧ Q (V.int (if i < 0 then -i else i)) H
def tState (K : PySem.W.Frag) : TS :=
  tSeq (tAsg (tLc (iList K (tSl (rSlL K) (tVar 0) tNoPart (tPart (tC (.int 63))))) (gName 2) tYes (tCB rAbsX (tCons (tVar 2) tNil)) [2]) (gName 1))
  (tSeq (tIfS (tTest (tOp rEq (tCB (rLenX K) (tCons (tVar 1) tNil)) (tC (.int 0)))) (tAsg (tLst (tCons (tC (.int 0)) tNil)) (gName 1)) tNext)
  (tRet (tLst (tCons (tC (.int 0)) (tCons (tVar 1) tNil)))))
def spState (K : PySem.W.Frag) : Sp := fun vs H Q _ => ∃ (a : Addr) (ns : List Int), vs = [.ref a] ∧ SqL K H a (ns.map V.int) ∧ ns.length ≤ 63 ∧
  ∀ (p c : Addr) (H' : Hp), (∀ (P : Program) (w : World), StOk ⟨p, c, P, w⟩ H') → Q (.ref p) H'
theorem SqL.len_le {K : PySem.W.Frag} {H : Hp} {a : Addr} {xs : List V} (h : xs.length ≤ 63) : xs.length ≤ sizeLine := by rw [sizeLine_eq]; omega
theorem sqL_upd {K : PySem.W.Frag} {H : Hp} {a p : Addr} {xs : List V} {o : HO} (h : SqL K H a xs) (hp : H p = none) : SqL K (upd H p o) a xs := by
  rcases h with h | h
  · rcases h with h | ⟨ob, h⟩
    · exact .inl (.inl (by rw [upd_ne (ne_of_none h hp)]; exact h))
    · exact .inl (.inr ⟨ob, by rw [upd_ne (ne_of_none h hp)]; exact h⟩)
  · exact .inr h
theorem state_run {K : PySem.W.Frag} {vs : List V} {H : Hp} {Q : VK} {E : XK} (h : spState K vs H Q E) : tState K { nx := fun _ H' => Q .non H', rt := Q } (L2.start ["script", "cells", "cell"] vs) H := by
  obtain ⟨a, ns, rfl, hs, h63, q⟩ := h
  have ec : ∃ ms : List Int, cutV (ns.map V.int) none (some 63) = ms.map V.int ∧ ms.length ≤ 63 := by
    unfold cutV
    rw [← List.map_drop, ← List.map_take]
    refine ⟨_, rfl, ?_⟩
    rw [List.length_take, List.length_drop]; omega
  obtain ⟨ms, ems, hms⟩ := ec
  -- what follows the comprehension
  have rest : ∀ (H1 : Hp) (D : Addr) (zs : List Int), H1 D = some (.lst (zs.map V.int)) → zs.length ≤ 63 →
      (tSeq (tIfS (tTest (tOp rEq (tCB (rLenX K) (tCons (tVar 1) tNil)) (tC (.int 0)))) (tAsg (tLst (tCons (tC (.int 0)) tNil)) (gName 1)) tNext) (tRet (tLst (tCons (tC (.int 0)) (tCons (tVar 1) tNil)))))
        { nx := fun _ H' => Q .non H', rt := Q } ((L2.start ["script", "cells", "cell"] [V.ref a]).set 1 (some (.ref D))) H1 := by
    intro H1 D zs hD hz
    have fin : ∀ (H2 : Hp) (D2 : Addr) (ys : List Int), H2 D2 = some (.lst (ys.map V.int)) → 0 < ys.length → ∀ p, H2 p = none → Q (.ref p) (upd H2 p (.lst [.int 0, .ref D2])) := by
      intro H2 D2 ys hD2 hy p hp
      have hne : p ≠ D2 := fun z => by
        rw [z, hD2] at hp
        cases hp
      exact q p D2 _ fun _ _ => ⟨hne, 0, ys, upd_same, by show upd H2 p _ D2 = _; rw [upd_ne hne.symm]; exact hD2, hy⟩
    refine ⟨_, rfl, _, _, rfl, .inl ⟨_, .of hD, rfl⟩, rfl, _, rfl, ?_⟩
    by_cases h0 : zs.length = 0
    · have e : decide (V.int (((zs.map V.int).length : Nat) : Int) = V.int 0) = true := decide_eq_true (by rw [List.length_map, h0]; rfl)
      rw [e]
      refine L2.iteT ?_
      refine ⟨by show 1 ≤ sizeLine; rw [sizeLine_eq]; decide, fun p hp => ?_⟩
      refine ⟨_, rfl, by show 2 ≤ sizeLine; rw [sizeLine_eq]; decide, fun p2 hp2 => fin _ p [0] upd_same (by decide) p2 hp2⟩
    · have e : decide (V.int (((zs.map V.int).length : Nat) : Int) = V.int 0) = false := decide_eq_false (fun z => by
        have z' := V.int.inj z
        rw [List.length_map] at z'
        omega)
      rw [e]
      refine L2.iteF ?_
      exact ⟨_, rfl, by show 2 ≤ sizeLine; rw [sizeLine_eq]; decide, fun p2 hp2 => fin _ D zs hD (by omega) p2 hp2⟩
  refine ⟨_, rfl, 63, rfl, a, _, rfl, hs, fun p hp => ?_⟩
  rw [ems]
  refine ⟨p, rfl, ⟨_, .of upd_same⟩, fun D hD => ?_⟩
  have hpD : p ≠ D := fun z => by rw [← z, upd_same] at hD; cases hD
  refine lc_list (xs := ms.map V.int) (Qd := fun H' => _) (fun i H' => ∃ zs : List Int, H' D = some (.lst (zs.map V.int)) ∧ zs.length = i ∧ H' p = some (.lst (ms.map V.int))) ⟨[], upd_same, rfl, by rw [upd_ne hpD]; exact upd_same⟩ (fun i H' _ ⟨_, _, _, e⟩ => .of e) (fun i x H' hx ⟨zs, e1, e2, e3⟩ => ?_) (fun H' ⟨zs, e1, e2, e3⟩ => ?_)
  · obtain ⟨z, rfl⟩ : ∃ z, x = V.int z := by
      rw [List.getElem?_map] at hx
      cases hm : ms[i]? with
      | none => rw [hm] at hx; cases hx
      | some z => rw [hm] at hx; exact ⟨z, (Option.some.inj hx).symm⟩
    have hi : i < ms.length := by
      have := (List.getElem?_eq_some_iff.mp hx).1
      rwa [List.length_map] at this
    refine ⟨rfl, ?_⟩
    refine L2.iteT (B := ∃ zs : List Int, H' D = some (.lst (zs.map V.int)) ∧ zs.length = i + 1 ∧ H' p = some (.lst (ms.map V.int))) ?_
    refine ⟨_, rfl, z, rfl, _, e1, by rw [List.length_map, sizeLine_eq]; omega, zs ++ [if z < 0 then -z else z], ?_, by rw [List.length_append, e2]; rfl, by rw [upd_ne hpD]; exact e3⟩
    rw [upd_same, List.map_append]; rfl
  · exact rest H' D zs e1 (by rw [e2, List.length_map]; exact hms)
end DL

set_option Elab.async false
set_option linter.all false
set_option maxRecDepth 100000
/-! DL14: the law itself; from the head's facts to what the walk takes. -/
namespace DL
open PySem PySem.Spec L2
open PyProof.Rows hiding St

def spLawD (K : PySem.W.Frag) : Sp := fun vs H Q _ => ∃ (a : Addr) (ns : List Int), vs = [.ref a] ∧ SqL K H a (ns.map V.int) ∧ ns.length ≤ 63 ∧ ∀ H', Q (.bl true) H'
/-- a block's reading, the state wherever it stands -/
def TA_ (P : Program) (w : World) (m : DS) : TS := fun D' σ H => ∃ S : SA, (S.pr = P ∧ S.wd = w) ∧ TS_ S m D' σ H
theorem pss_any {X : Cx} {sts : List Stmt} {m : DS} {P : Program} {w : World} (h : ∀ S : SA, S.pr = P ∧ S.wd = w → QSs S X sts m) : PSs X sts (TA_ P w m) := ⟨fun pins s σ H D' I ⟨S, z, q⟩ => (h S z).run pins s σ H D' I q⟩
theorem law_run {P : Program} {w : World} {K : PySem.W.Frag} {m : DS} {N : List Str} {k : Nat} (hk : N.length = k + 2) (hm : (m (none :: some (.val .stt) :: List.replicate k none)).wp fun r => r.1 = .rt (.bl true)) {vs : List V} {H : Hp} {Q : VK} {E : XK} (h : spLawD K vs H Q E) :
    tSeq (tAsg (tCall (spState K) [] E0 (tCons (tVar 0) tNil)) (gName 1)) (TA_ P w m) { nx := fun _ H' => Q .non H', rt := Q } (L2.start N vs) H := by
  obtain ⟨a, ns, rfl, hs, h63, q⟩ := h
  have hst : L2.start N [V.ref a] = some (.ref a) :: List.replicate (k + 1) none := by
    unfold L2.start
    rw [hk]; rfl
  rw [hst]
  refine ⟨_, rfl, a, ns, rfl, hs, h63, fun sp sc H' st => ?_⟩
  refine ⟨⟨sp, sc, P, w⟩, ⟨rfl, rfl⟩, fun _ => none, fun _ => none, none :: some (.val .stt) :: List.replicate k none, ⟨(fun _ _ e => nomatch e), (fun _ _ e => nomatch e), st P w, rfl, rfl, ?_, fun i sl e => ?_, fun i j di dj b e => ?_⟩, M.wp_mono hm fun r hr σ' G' F' H'' x g' => ?_⟩
  · simp
  · match i, e with
    | 0, e => cases e
    | 1, e =>
      cases e
      exact ⟨_, rfl, .stt⟩
    | i + 2, e =>
      have e' : (List.replicate k (none : Option Sl))[i]? = some (some sl) := e
      rw [List.getElem?_replicate] at e'
      split at e' <;> cases e'
  · match i, e with
    | 0, e => cases e
    | 1, e => cases e
    | i + 2, e =>
      have e' : (List.replicate k (none : Option Sl))[i]? = some (some (.own di)) := e
      rw [List.getElem?_replicate] at e'
      split at e' <;> cases e'
  · rw [hr]
    intro v rv
    cases rv
    exact q H''
/-- a def by the head's facts -/
theorem fun_of {K : PySem.W.Frag} {x qual : Str} {st : Stmt} {f : Addr} {fd : FuncData} (F : FunD K x qual (defArgs st) (defBody st) (defScope st) [] [] f fd) : L2.Fun K x qual st f fd := by
  obtain ⟨oc, od, dV, kV, doc, pm, an, cdv, ct, osl, e, lk, hcd, hD, hK⟩ := F.ex
  rcases hD with ⟨_, rfl⟩ | ⟨e, _⟩
  · exact ⟨⟨oc, od, kV, doc, pm, an, cdv, ct, osl, e, lk, hcd⟩, F.kp⟩
  · exact absurd rfl e
/-- the head's datum of a def -/
def dd (x : Str) (st : Stmt) : He.DefD := ⟨(x, none), x, x, defArgs st, defBody st, defScope st, [], []⟩
end DL

set_option Elab.async false
set_option linter.all false
set_option maxRecDepth 100000
/-! DL15: names forgotten; all draws, computed; loops whose turns do not hang together. -/
namespace DL
open PySem PySem.Spec L2
open PyProof.Rows hiding St

/-- names of which nothing is said from now on -/
def mForget (ws : List Nat) (m : DS) : DS := fun env => m (wipeE env ws)
section
variable {S : SA} {X : Cx} {G F H : Hp} {σ : L2.St} {env : DEnv}
theorem Good.forget (g : Good S G F σ H env) (ws : List Nat) : Good S G F σ H (wipeE env ws) := by
  have sl' : ∀ (i : Nat) (sl : Sl), (wipeE env ws)[i]? = some (some sl) → env[i]? = some (some sl) := fun i sl e => by
    have hi : i ∉ ws := fun hm => wipeE_in hm e
    rw [wipeE_out hi] at e
    exact e
  exact ⟨g.kp, g.fg, g.st, g.ns, g.nc, by rw [wipeE_len]; exact g.len, fun i sl e => g.slot i sl (sl' i sl e), fun j k dj dk a e1 e2 e3 e4 => g.dist j k dj dk a (sl' _ _ e1) (sl' _ _ e2) e3 e4⟩
theorem qforget (ws : List Nat) {sts : List Stmt} {m : DS} (h : QSs S X sts m) : QSs S X sts (mForget ws m) :=
  pss_weak h fun D' σ H ⟨G, F, env, g, q⟩ => ⟨G, F, wipeE env ws, g.forget ws, q⟩
end
/-! ### all draws -/
def M.all {α : Type} (p : α → Bool) : M α → Bool
  | .ret a => p a
  | .fail => false
  | .ask k f => decide (0 < k) && (decide (k < 2 ^ 30) && (List.range k.toNat).all fun i => M.all p (f (Int.ofNat i)))
theorem M.all_wp {α : Type} {p : α → Bool} {m : M α} (h : m.all p = true) : m.wp fun a => p a = true := by
  induction m with
  | ret a => exact h
  | fail => cases h
  | ask k f ih =>
    simp only [M.all, Bool.and_eq_true, decide_eq_true_eq, List.all_eq_true, List.mem_range] at h
    refine ⟨⟨h.1, h.2.1⟩, fun r h1 h2 => ?_⟩
    have e := h.2.2 r.toNat (by omega)
    have e2 : Int.ofNat r.toNat = r := Int.toNat_of_nonneg h1
    rw [e2] at e
    exact ih r e
def M.outs {α : Type} : M α → Option (List α)
  | .ret a => some [a]
  | .fail => none
  | .ask k f => if decide (0 < k) && decide (k < 2 ^ 30) then ((List.range k.toNat).mapM fun i => M.outs (f (Int.ofNat i))).map List.flatten else none
theorem mapM_some {α β : Type} {f : α → Option β} : ∀ {l : List α} {r : List β}, l.mapM f = some r → ∀ a ∈ l, ∃ b ∈ r, f a = some b
  | [], _, _, a, h => by cases h
  | x :: l, r, e, a, h => by
    rw [List.mapM_cons] at e
    cases e1 : f x with
    | none => rw [e1] at e; cases e
    | some b =>
      rw [e1] at e
      cases e2 : l.mapM f with
      | none => rw [e2] at e; cases e
      | some bs =>
        rw [e2] at e
        cases e
        rcases List.mem_cons.mp h with rfl | h
        · exact ⟨b, List.mem_cons_self, e1⟩
        · obtain ⟨c, h1, h2⟩ := mapM_some e2 a h
          exact ⟨c, List.mem_cons_of_mem _ h1, h2⟩
theorem M.outs_wp {α : Type} {m : M α} : ∀ {L : List α}, m.outs = some L → m.wp (· ∈ L) := by
  induction m with
  | ret a => intro L h; cases h; exact List.mem_cons_self
  | fail => intro L h; cases h
  | ask k f ih =>
    intro L h
    simp only [M.outs] at h
    split at h
    · rename_i hc
      simp only [Bool.and_eq_true, decide_eq_true_eq] at hc
      obtain ⟨r, e1, rfl⟩ := Option.map_eq_some_iff.mp h
      refine ⟨hc, fun i h1 h2 => ?_⟩
      obtain ⟨b, hb, e⟩ := mapM_some e1 i.toNat (List.mem_range.mpr (by omega))
      have e2 : Int.ofNat i.toNat = i := Int.toNat_of_nonneg h1
      rw [e2] at e
      exact M.wp_mono (ih i e) fun a ha => List.mem_flatten.mpr ⟨b, hb, ha⟩
    · cases h
/-! ### statements one behind another -/
theorem wp_seq {m1 m2 : DS} {env : DEnv} {P : Fl × DEnv → Prop} (h : (m1 env).wp fun r => match r.1 with | .nx => (m2 r.2).wp P | f => P (f, r.2)) : (mSeq m1 m2 env).wp P := by
  unfold mSeq
  refine M.wp_bind.mpr (M.wp_mono h fun r hr => ?_)
  obtain ⟨f, e⟩ := r
  cases f <;> exact hr
theorem seq_ret {m1 m2 : DS} {env env' : DEnv} (h : m1 env = .ret (.nx, env')) : mSeq m1 m2 env = m2 env' := by
  unfold mSeq
  rw [h]; rfl
/-- turns that leave all but the names ws as it was, and go on: each is looked at for itself -/
theorem wp_forL {gg : DG} {mb : DS} {ws : List Nat} {e : DEnv} {P : Fl × DEnv → Prop} (hg : ∀ d e', wipeE e' ws = wipeE e ws → (gg d e').wp fun e'' => wipeE e'' ws = wipeE e ws)
    (hb : (mb (wipeE e ws)).wp fun r => (r.1 = .nx ∨ r.1 = .ct) ∧ wipeE r.2 ws = wipeE e ws) (hp : ∀ e', wipeE e' ws = wipeE e ws → P (.nx, e')) :
    ∀ (ds : List D) (e' : DEnv), wipeE e' ws = wipeE e ws → (mForL gg (mForget ws mb) ds e').wp P
  | [], e', h => hp e' h
  | d :: ds, e', h => by
    unfold mForL
    refine M.wp_bind.mpr (M.wp_mono (hg d e' h) fun e1 h1 => M.wp_bind.mpr ?_)
    show (mb (wipeE e1 ws)).wp _
    rw [h1]
    refine M.wp_mono hb fun r hr => ?_
    obtain ⟨f, e2⟩ := r
    obtain ⟨h2, h3⟩ := hr
    rcases h2 with h2 | h2
    · have h2 : f = .nx := h2
      subst h2
      exact wp_forL hg hb hp ds e2 h3
    · have h2 : f = .ct := h2
      subst h2
      exact wp_forL hg hb hp ds e2 h3
end DL

set_option Elab.async false
set_option linter.all false
set_option maxRecDepth 100000
/-! DL16: trees that are the same, by computing. -/
namespace DL
open PySem PySem.Spec L2
open PyProof.Rows hiding St
mutual
def D.same : D → D → Bool
  | .non, d => match d with
    | .non => true
    | _ => false
  | .bl a, d => match d with
    | .bl b => a == b
    | _ => false
  | .int a, d => match d with
    | .int b => decide (a = b)
    | _ => false
  | .str a, d => match d with
    | .str b => decide (a = b)
    | _ => false
  | .tup xs, d => match d with
    | .tup ys => D.sameL xs ys
    | _ => false
  | .lst xs, d => match d with
    | .lst ys => D.sameL xs ys
    | _ => false
  | .dct t xs, d => match d with
    | .dct u ys => (t == u) && D.sameK xs ys
    | _ => false
  | .dcn xs, d => match d with
    | .dcn ys => D.sameK xs ys
    | _ => false
  | .stt, d => match d with
    | .stt => true
    | _ => false
def D.sameL : List D → List D → Bool
  | [], ds => match ds with
    | [] => true
    | _ :: _ => false
  | x :: xs, ds => match ds with
    | [] => false
    | y :: ys => D.same x y && D.sameL xs ys
def D.sameK : List (D × D) → List (D × D) → Bool
  | [], ds => match ds with
    | [] => true
    | _ :: _ => false
  | (x, u) :: xs, ds => match ds with
    | [] => false
    | (y, v) :: ys => D.same x y && (D.same u v && D.sameK xs ys)
end
mutual
theorem D.same_eq : ∀ d e : D, D.same d e = true → d = e
  | .non, e, h => by cases e <;> simp [D.same] at h ⊢
  | .bl a, e, h => by cases e <;> simp [D.same] at h ⊢; exact h
  | .int a, e, h => by cases e <;> simp [D.same] at h ⊢; exact h
  | .str a, e, h => by cases e <;> simp [D.same] at h ⊢; exact h
  | .stt, e, h => by cases e <;> simp [D.same] at h ⊢
  | .tup xs, e, h => by
    cases e <;> simp [D.same] at h ⊢
    exact D.sameL_eq xs _ h
  | .lst xs, e, h => by
    cases e <;> simp [D.same] at h ⊢
    exact D.sameL_eq xs _ h
  | .dct t xs, e, h => by
    cases e <;> simp [D.same] at h ⊢
    exact ⟨h.1, D.sameK_eq xs _ h.2⟩
  | .dcn xs, e, h => by
    cases e <;> simp [D.same] at h ⊢
    exact D.sameK_eq xs _ h
theorem D.sameL_eq : ∀ d e : List D, D.sameL d e = true → d = e
  | [], e, h => by cases e <;> simp [D.sameL] at h ⊢
  | x :: xs, e, h => by
    cases e <;> simp [D.sameL] at h ⊢
    exact ⟨D.same_eq x _ h.1, D.sameL_eq xs _ h.2⟩
theorem D.sameK_eq : ∀ d e : List (D × D), D.sameK d e = true → d = e
  | [], e, h => by cases e <;> simp [D.sameK] at h ⊢
  | (x, u) :: xs, e, h => by
    cases e with
    | nil => simp [D.sameK] at h
    | cons p ys =>
      obtain ⟨y, v⟩ := p
      simp [D.sameK] at h ⊢
      exact ⟨⟨D.same_eq x _ h.1, D.same_eq u _ h.2.1⟩, D.sameK_eq xs _ h.2.2⟩
end
def Sl.same : Option Sl → Option Sl → Bool
  | none, none => true
  | some (.val a), some (.val b) => D.same a b
  | some (.own a), some (.own b) => D.same a b
  | some (.bor a), some (.bor b) => D.same a b
  | _, _ => false
def envSame : DEnv → DEnv → Bool
  | [], [] => true
  | a :: as, b :: bs => Sl.same a b && envSame as bs
  | _, _ => false
theorem Sl.same_eq : ∀ a b : Option Sl, Sl.same a b = true → a = b
  | none, none, _ => rfl
  | some (.val a), some (.val b), h => by rw [D.same_eq a b h]
  | some (.own a), some (.own b), h => by rw [D.same_eq a b h]
  | some (.bor a), some (.bor b), h => by rw [D.same_eq a b h]
  | none, some _, h => by cases h
  | some (.val _), none, h => by cases h
  | some (.own _), none, h => by cases h
  | some (.bor _), none, h => by cases h
  | some (.val _), some (.own _), h => by cases h
  | some (.val _), some (.bor _), h => by cases h
  | some (.own _), some (.val _), h => by cases h
  | some (.own _), some (.bor _), h => by cases h
  | some (.bor _), some (.val _), h => by cases h
  | some (.bor _), some (.own _), h => by cases h
theorem envSame_eq : ∀ a b : DEnv, envSame a b = true → a = b
  | [], [], _ => rfl
  | a :: as, b :: bs, h => by
    simp only [envSame, Bool.and_eq_true] at h
    rw [Sl.same_eq a b h.1, envSame_eq as bs h.2]
  | [], _ :: _, h => by cases h
  | _ :: _, [], h => by cases h
end DL

set_option Elab.async false
set_option linter.all false
set_option maxRecDepth 100000
/-! DL17: mirrors by functions over plain data: what a mirror does is told by a function without frames. -/
namespace DL
open PySem PySem.Spec L2
open PyProof.Rows hiding St

/-- texts that are the same, quickly -/
def natsEqB : List Nat → List Nat → Bool
  | [], [] => true
  | a :: as, b :: bs => Nat.beq a b && natsEqB as bs
  | _, _ => false
theorem natsEqB_iff : ∀ a b : List Nat, natsEqB a b = true ↔ a = b
  | [], [] => by simp [natsEqB]
  | [], b :: bs => by simp [natsEqB]
  | a :: as, [] => by simp [natsEqB]
  | a :: as, b :: bs => by
    rw [natsEqB, Bool.and_eq_true, natsEqB_iff as bs, List.cons.injEq]
    exact and_congr_left' (by rw [Nat.beq_eq])
theorem strEq_iff (a b : Str) : natsEqB a.cps.toList b.cps.toList = true ↔ a = b := by
  rw [natsEqB_iff]
  constructor
  · intro h
    obtain ⟨⟨x⟩⟩ := a
    obtain ⟨⟨y⟩⟩ := b
    cases h; rfl
  · rintro rfl; rfl
instance (priority := 2000) fastStr : DecidableEq Str := fun a b => decidable_of_bool _ (strEq_iff a b)
/-- m does what t tells: what holds of all that stands for t's results holds of m's -/
structure Rf {α δ : Type} (R : α → δ → Prop) (m : M δ) (t : M α) : Prop where
  of ::
  run : ∀ P : δ → Prop, (t.wp fun a => ∀ d, R a d → P d) → m.wp P
section
variable {α β γ δ ε : Type} {R : α → δ → Prop}
theorem Rf.ret {a : α} {d : δ} (h : R a d) : Rf R (.ret d) (.ret a) := .of fun P q => q d h
theorem Rf.fail {m : M δ} : Rf R m .fail := .of fun P q => q.elim
theorem Rf.bind {R' : β → ε → Prop} {m : M δ} {t : M α} {g : δ → M ε} {h : α → M β} (a : Rf R m t) (b : ∀ x d, R x d → Rf R' (g d) (h x)) : Rf R' (m >>= g) (t >>= h) := .of fun P q =>
  M.wp_bind.mpr (a.run _ (M.wp_mono (M.wp_bind.mp q) fun x q d r => (b x d r).run P q))
theorem Rf.ask {k : Int} {f : Int → M δ} {g : Int → M α} (h : ∀ i, Rf R (f i) (g i)) : Rf R (.ask k f) (.ask k g) := .of fun P q => ⟨q.1, fun r h1 h2 => (h r).run P (q.2 r h1 h2)⟩
theorem Rf.mono {R' : α → δ → Prop} {m : M δ} {t : M α} (h : Rf R m t) (w : ∀ a d, R a d → R' a d) : Rf R' m t := .of fun P q => h.run P (M.wp_mono q fun a q d r => q d (w a d r))
theorem Rf.wp {m : M δ} {t : M α} (h : Rf R m t) {P : δ → Prop} (q : t.wp fun a => ∀ d, R a d → P d) : m.wp P := h.run P q
end
/-- the value that stands for a -/
def Re {α : Type} (e : α → D) : α → D → Prop := fun a d => d = e a
abbrev Ev {α : Type} (e : α → D) (m : M D) (t : M α) : Prop := Rf (Re e) m t
def Rb : Bool → Bool → Prop := fun a b => b = a
abbrev EvT (m : M Bool) (t : M Bool) : Prop := Rf Rb m t

/-! ### plain data as trees -/
def eI : Int → D := .int
def eS : Str → D := .str
def eB : Bool → D := .bl
def eN : Unit → D := fun _ => .non
def eD : D → D := id
def eL {α : Type} (e : α → D) : List α → D := fun xs => .lst (xs.map e)
/-- tuples of any length -/
def eV {α : Type} (e : α → D) : List α → D := fun xs => .tup (xs.map e)
def eT1 {α : Type} (e : α → D) : α → D := fun a => .tup [e a]
def eT2 {α β : Type} (e : α → D) (f : β → D) : α × β → D := fun p => .tup [e p.1, f p.2]
def eT3 {α β γ : Type} (e : α → D) (f : β → D) (g : γ → D) : α × β × γ → D := fun p => .tup [e p.1, f p.2.1, g p.2.2]
def eT4 {α β γ δ : Type} (e : α → D) (f : β → D) (g : γ → D) (h : δ → D) : α × β × γ × δ → D := fun p => .tup [e p.1, f p.2.1, g p.2.2.1, h p.2.2.2]
def eO {α : Type} (e : α → D) : Option α → D
  | none => .non
  | some a => e a
/-- an encoding that is plain, at most n deep, by which what is the same stands for the same -/
structure Ec {α : Type} [DecidableEq α] (n : Nat) (e : α → D) : Prop where
  pl : ∀ a, (e a).pl n = true
  beq : ∀ a b, D.beq (e a) (e b) = decide (a = b)
mutual
theorem D.pl_mono : ∀ (d : D) {n m : Nat}, n ≤ m → d.pl n = true → d.pl m = true
  | .non, _, _, _, _ => by simp [D.pl]
  | .int _, _, _, _, _ => by simp [D.pl]
  | .str _, _, _, _, _ => by simp [D.pl]
  | .bl _, _, _, _, h => by simp [D.pl] at h
  | .dct _ _, _, _, _, h => by simp [D.pl] at h
  | .dcn _, _, _, _, h => by simp [D.pl] at h
  | .stt, _, _, _, h => by simp [D.pl] at h
  | .tup xs, 0, _, _, h => by simp [D.pl] at h
  | .lst xs, 0, _, _, h => by simp [D.pl] at h
  | .tup xs, n + 1, 0, hl, _ => by omega
  | .lst xs, n + 1, 0, hl, _ => by omega
  | .tup xs, n + 1, m + 1, hl, h => by
    simp only [D.pl] at h ⊢
    exact D.plL_mono xs (by omega) h
  | .lst xs, n + 1, m + 1, hl, h => by
    simp only [D.pl] at h ⊢
    exact D.plL_mono xs (by omega) h
theorem D.plL_mono : ∀ (ds : List D) {n m : Nat}, n ≤ m → D.plL n ds = true → D.plL m ds = true
  | [], _, _, _, _ => by simp [D.plL]
  | d :: ds, n, m, hl, h => by
    simp only [D.plL, Bool.and_eq_true] at h ⊢
    exact ⟨D.pl_mono d hl h.1, D.plL_mono ds hl h.2⟩
end
section
variable {α β γ δ : Type} [DecidableEq α] [DecidableEq β] [DecidableEq γ] [DecidableEq δ] {e : α → D} {f : β → D} {g : γ → D} {h : δ → D} {n m k l : Nat}
theorem cI : Ec 0 eI := ⟨fun a => by simp [eI, D.pl], fun a b => by simp [eI, D.beq]⟩
theorem cS : Ec 0 eS := ⟨fun a => by simp [eS, D.pl], fun a b => by simp [eS, D.beq]⟩
theorem cN : Ec 0 eN := ⟨fun a => by simp [eN, D.pl], fun a b => by simp [eN, D.beq]⟩
theorem plL_map (c : Ec n e) : ∀ xs : List α, D.plL n (xs.map e) = true
  | [] => by simp [D.plL]
  | x :: xs => by simp [D.plL, c.pl x, plL_map c xs]
theorem beqL_map (c : Ec n e) : ∀ xs ys : List α, D.beqL (xs.map e) (ys.map e) = decide (xs = ys)
  | [], [] => by simp [D.beqL]
  | [], y :: ys => by simp [D.beqL]
  | x :: xs, [] => by simp [D.beqL]
  | x :: xs, y :: ys => by
    rw [List.map_cons, List.map_cons, D.beqL, c.beq, beqL_map c xs ys]
    by_cases h1 : x = y <;> by_cases h2 : xs = ys <;> simp [h1, h2]
theorem cL (c : Ec n e) : Ec (n + 1) (eL e) := ⟨fun a => by simp only [eL, D.pl]; exact plL_map c a, fun a b => by simp only [eL, D.beq]; exact beqL_map c a b⟩
theorem cV (c : Ec n e) : Ec (n + 1) (eV e) := ⟨fun a => by simp only [eV, D.pl]; exact plL_map c a, fun a b => by simp only [eV, D.beq]; exact beqL_map c a b⟩
theorem cT1 (c : Ec n e) : Ec (n + 1) (eT1 e) := ⟨fun a => by simp [eT1, D.pl, D.plL, c.pl], fun a b => by simp [eT1, D.beq, D.beqL, c.beq]⟩
theorem cT2 (c : Ec n e) (d : Ec m f) : Ec (max n m + 1) (eT2 e f) :=
  ⟨fun a => by simp only [eT2, D.pl, D.plL, D.pl_mono _ (Nat.le_max_left n m) (c.pl a.1), D.pl_mono _ (Nat.le_max_right n m) (d.pl a.2)]; rfl,
   fun a b => by
    obtain ⟨a1, a2⟩ := a
    obtain ⟨b1, b2⟩ := b
    simp only [eT2, D.beq, D.beqL, c.beq, d.beq]
    by_cases h1 : a1 = b1 <;> by_cases h2 : a2 = b2 <;> simp [h1, h2]⟩
theorem cT3 (c : Ec n e) (d : Ec m f) (c3 : Ec k g) : Ec (max n (max m k) + 1) (eT3 e f g) :=
  ⟨fun a => by
    simp only [eT3, D.pl, D.plL, D.pl_mono _ (Nat.le_max_left n (max m k)) (c.pl a.1), D.pl_mono _ (show m ≤ max n (max m k) by omega) (d.pl a.2.1), D.pl_mono _ (show k ≤ max n (max m k) by omega) (c3.pl a.2.2)]; rfl,
   fun a b => by
    obtain ⟨a1, a2, a3⟩ := a
    obtain ⟨b1, b2, b3⟩ := b
    simp only [eT3, D.beq, D.beqL, c.beq, d.beq, c3.beq]
    by_cases h1 : a1 = b1 <;> by_cases h2 : a2 = b2 <;> by_cases h3 : a3 = b3 <;> simp [h1, h2, h3]⟩
end
end DL

set_option Elab.async false
set_option linter.all false
set_option maxRecDepth 100000
/-! DL18: loops of mirrors by loops over plain states. -/
namespace DL
open PySem PySem.Spec L2
open PyProof.Rows hiding St

/-! ### plain loops -/
inductive Fw (σ ρ : Type) where
  | go (s : σ) | brk (s : σ) | back (r : ρ)
def loopM {α σ : Type} (f : α → σ → M σ) : List α → σ → M σ
  | [], s => .ret s
  | x :: xs, s => f x s >>= fun s' => loopM f xs s'
def loopR {α σ ρ : Type} (f : α → σ → M (Fw σ ρ)) : List α → σ → M (Fw σ ρ)
  | [], s => .ret (.go s)
  | x :: xs, s => f x s >>= fun o => match o with
    | .go s' => loopR f xs s'
    | .brk s' => .ret (.go s')
    | .back r => .ret (.back r)
def whileM {σ : Type} (c : σ → M Bool) (f : σ → M σ) : Nat → σ → M σ
  | 0, _ => .fail
  | n + 1, s => c s >>= fun k => if k then f s >>= fun s' => whileM c f n s' else .ret s
def whileR {σ ρ : Type} (c : σ → M Bool) (f : σ → M (Fw σ ρ)) : Nat → σ → M (Fw σ ρ)
  | 0, _ => .fail
  | n + 1, s => c s >>= fun k => if k then f s >>= fun o => match o with
    | .go s' => whileR c f n s'
    | .brk s' => .ret (.go s')
    | .back r => .ret (.back r) else .ret (.go s)
section
variable {α σ ρ : Type} {e : α → D} {eρ : ρ → D} {gg : DG} {mb : DS} {E : σ → DEnv} {E1 : α → σ → DEnv}
/-- goes on, the frame told by s -/
def RN (E : σ → DEnv) : σ → Fl × DEnv → Prop := fun s p => p = (.nx, E s)
/-- a turn's end -/
def RX (E : σ → DEnv) : σ → Fl × DEnv → Prop := fun s p => p = (.nx, E s) ∨ p = (.ct, E s)
def RTn (E : σ → DEnv) (eρ : ρ → D) : Fw σ ρ → Fl × DEnv → Prop
  | .go s, p => p = (.nx, E s) ∨ p = (.ct, E s)
  | .brk s, p => p = (.bk, E s)
  | .back r, p => p.1 = .rt (eρ r)
def RLp (E : σ → DEnv) (eρ : ρ → D) : Fw σ ρ → Fl × DEnv → Prop
  | .go s, p => p = (.nx, E s)
  | .brk _, _ => False
  | .back r, p => p.1 = .rt (eρ r)
theorem rf_loopM {f : α → σ → M σ} (hg : ∀ x s, gg (e x) (E s) = .ret (E1 x s)) (hb : ∀ x s, Rf (RX E) (mb (E1 x s)) (f x s)) : ∀ (xs : List α) (s : σ), Rf (RN E) (mForL gg mb (xs.map e) (E s)) (loopM f xs s)
  | [], s => Rf.ret rfl
  | x :: xs, s => by
    show Rf _ (gg (e x) (E s) >>= fun env1 => mb env1 >>= _) (f x s >>= _)
    rw [hg]
    show Rf _ (mb (E1 x s) >>= _) _
    refine (hb x s).bind fun s' p r => ?_
    have ih := rf_loopM hg hb xs s'
    rcases r with r | r <;> subst r <;> exact ih
theorem rf_loopR {f : α → σ → M (Fw σ ρ)} (hg : ∀ x s, gg (e x) (E s) = .ret (E1 x s)) (hb : ∀ x s, Rf (RTn E eρ) (mb (E1 x s)) (f x s)) : ∀ (xs : List α) (s : σ), Rf (RLp E eρ) (mForL gg mb (xs.map e) (E s)) (loopR f xs s)
  | [], s => Rf.ret rfl
  | x :: xs, s => by
    show Rf _ (gg (e x) (E s) >>= fun env1 => mb env1 >>= _) (f x s >>= _)
    rw [hg]
    show Rf _ (mb (E1 x s) >>= _) _
    refine (hb x s).bind fun o p r => ?_
    cases o with
    | go s' =>
      have ih := rf_loopR hg hb xs s'
      rcases r with r | r <;> subst r <;> exact ih
    | brk s' =>
      have r : p = (.bk, E s') := r
      subst r; exact Rf.ret rfl
    | back r' =>
      obtain ⟨fl, env2⟩ := p
      have r1 : fl = .rt (eρ r') := r
      subst r1; exact Rf.ret rfl
theorem rf_whileM {c : DT} {tc : σ → M Bool} {f : σ → M σ} (hc : ∀ s, EvT (c (E s)) (tc s)) (hb : ∀ s, Rf (RX E) (mb (E s)) (f s)) : ∀ (n : Nat) (s : σ), Rf (RN E) (mWhile c mb n (E s)) (whileM tc f n s)
  | 0, s => Rf.fail
  | n + 1, s => by
    refine (hc s).bind fun k k' hk => ?_
    have hk : k' = k := hk
    subst hk
    cases k' with
    | true =>
      refine (hb s).bind fun s' p r => ?_
      have ih := rf_whileM hc hb n s'
      rcases r with r | r <;> subst r <;> exact ih
    | false => exact Rf.ret rfl
theorem rf_whileR {c : DT} {tc : σ → M Bool} {f : σ → M (Fw σ ρ)} (hc : ∀ s, EvT (c (E s)) (tc s)) (hb : ∀ s, Rf (RTn E eρ) (mb (E s)) (f s)) : ∀ (n : Nat) (s : σ), Rf (RLp E eρ) (mWhile c mb n (E s)) (whileR tc f n s)
  | 0, s => Rf.fail
  | n + 1, s => by
    refine (hc s).bind fun k k' hk => ?_
    have hk : k' = k := hk
    subst hk
    cases k' with
    | true =>
      refine (hb s).bind fun o p r => ?_
      cases o with
      | go s' =>
        have ih := rf_whileR hc hb n s'
        rcases r with r | r <;> subst r <;> exact ih
      | brk s' =>
        have r : p = (.bk, E s') := r
        subst r; exact Rf.ret rfl
      | back r' =>
        obtain ⟨fl, env2⟩ := p
        have r1 : fl = .rt (eρ r') := r
        subst r1; exact Rf.ret rfl
    | false => exact Rf.ret rfl
end

/-! ### expressions -/
section
variable {α β γ δ σ ρ : Type} {R : β → δ → Prop} {e : α → D} {f : β → D}
theorem ev_ret {a : α} {m : M D} (h : m = .ret (e a)) : Ev e m (.ret a) := by rw [h]; exact Rf.ret rfl
theorem et_ret {a : Bool} {m : M Bool} (h : m = .ret a) : EvT m (.ret a) := by rw [h]; exact Rf.ret rfl
theorem x_bind {m : M D} {t : M α} {g : D → M δ} {k : α → M β} (a : Ev e m t) (b : ∀ x, Rf R (g (e x)) (k x)) : Rf R (m >>= g) (t >>= k) := a.bind fun x d r => by
  have r : d = e x := r
  subst r; exact b x
theorem x_bindP {m : M D} {d : D} {g : D → M δ} {t : M β} (a : m = .ret d) (b : Rf R (g d) t) : Rf R (m >>= g) t := by rw [a]; exact b
theorem x_test {m : M Bool} {t : M Bool} {g : Bool → M δ} {k : Bool → M β} (a : EvT m t) (b : ∀ x, Rf R (g x) (k x)) : Rf R (m >>= g) (t >>= k) := a.bind fun x d r => by
  have r : d = x := r
  subst r; exact b d
theorem x_testP {m : M Bool} {k : Bool} {g : Bool → M δ} {t : M β} (a : m = .ret k) (b : Rf R (g k) t) : Rf R (m >>= g) t := by rw [a]; exact b
/-- arguments, from the left -/
theorem a_cons {ma : DE} {ms : DA} {env : DEnv} {t : M α} {g : List D → M δ} {k : α → M β} (a : Ev e (ma env) t) (b : ∀ x, Rf R (ms env >>= fun xs => g (e x :: xs)) (k x)) : Rf R (aCons ma ms env >>= g) (t >>= k) := by
  have h : (aCons ma ms env >>= g) = (ma env >>= fun x => ms env >>= fun xs => g (x :: xs)) := by
    show ((ma env).bind fun x => (ms env).bind fun xs => M.ret (x :: xs)).bind g = _
    rw [M.bind_assoc']
    congr 1; funext x
    rw [M.bind_assoc'] <;> rfl
  rw [h]
  exact x_bind a b
theorem a_consP {ma : DE} {ms : DA} {env : DEnv} {d : D} {g : List D → M δ} {t : M β} (a : ma env = .ret d) (b : Rf R (ms env >>= fun xs => g (d :: xs)) t) : Rf R (aCons ma ms env >>= g) t := by
  have h : (aCons ma ms env >>= g) = (ma env >>= fun x => ms env >>= fun xs => g (x :: xs)) := by
    show ((ma env).bind fun x => (ms env).bind fun xs => M.ret (x :: xs)).bind g = _
    rw [M.bind_assoc']
    congr 1; funext x
    rw [M.bind_assoc'] <;> rfl
  rw [h]
  exact x_bindP a b
theorem p_nil {env : DEnv} : aNil env = .ret [] := rfl
theorem p_cons {ma : DE} {ms : DA} {env : DEnv} {d : D} {ds : List D} (a : ma env = .ret d) (b : ms env = .ret ds) : aCons ma ms env = .ret (d :: ds) := by
  unfold aCons; rw [a]; show (ms env >>= _) = _; rw [b]; rfl
theorem p_call {op : List D → M D} {ms : DA} {env : DEnv} {ds : List D} {d : D} (a : ms env = .ret ds) (h : op ds = .ret d) : mCall op ms env = .ret d := by
  unfold mCall; rw [a]; exact h
theorem p_bin {op : D → D → M D} {ma mb : DE} {env : DEnv} {x y z : D} (a : ma env = .ret x) (b : mb env = .ret y) (h : op x y = .ret z) : mBin op ma mb env = .ret z := by
  unfold mBin; rw [a]; show (mb env >>= _) = _; rw [b]; exact h
theorem p_binT {op : D → D → M D} {ma mb : DE} {env : DEnv} {x y : D} {k : Bool} (a : ma env = .ret x) (b : mb env = .ret y) (h : op x y = .ret (.bl k)) : mBinT op ma mb env = .ret k := by
  unfold mBinT; rw [p_bin a b h]; rfl
theorem p_and {ta tb : DT} {env : DEnv} {a b : Bool} (ha : ta env = .ret a) (hb : tb env = .ret b) : mAnd ta tb env = .ret (a && b) := by
  unfold mAnd; rw [ha]; cases a
  · rfl
  · exact hb
theorem p_or {ta tb : DT} {env : DEnv} {a b : Bool} (ha : ta env = .ret a) (hb : tb env = .ret b) : mOr ta tb env = .ret (a || b) := by
  unfold mOr; rw [ha]; cases a
  · exact hb
  · rfl
theorem p_not {ta : DT} {env : DEnv} {a : Bool} (ha : ta env = .ret a) : mNot ta env = .ret (!a) := by
  unfold mNot; rw [ha]; rfl
theorem p_tru {m : DE} {env : DEnv} {d : D} {k : Bool} (a : m env = .ret d) (h : truM d = .ret k) : mTru m env = .ret k := by
  unfold mTru; rw [a]; exact h
/-- tests that do not come out at once -/
theorem r_and {ta tb : DT} {env : DEnv} {a b : M Bool} (ha : EvT (ta env) a) (hb : EvT (tb env) b) : EvT (mAnd ta tb env) (a >>= fun k => if k then b else .ret false) := x_test ha fun k => by
  cases k
  · exact Rf.ret rfl
  · exact hb
theorem r_or {ta tb : DT} {env : DEnv} {a b : M Bool} (ha : EvT (ta env) a) (hb : EvT (tb env) b) : EvT (mOr ta tb env) (a >>= fun k => if k then .ret true else b) := x_test ha fun k => by
  cases k
  · exact hb
  · exact Rf.ret rfl
theorem r_andP {ta tb : DT} {env : DEnv} {a : Bool} {b : M Bool} (ha : ta env = .ret a) (hb : EvT (tb env) b) : EvT (mAnd ta tb env) (if a then b else .ret false) := x_testP ha (by
  cases a
  · exact Rf.ret rfl
  · exact hb)
theorem r_orP {ta tb : DT} {env : DEnv} {a : Bool} {b : M Bool} (ha : ta env = .ret a) (hb : EvT (tb env) b) : EvT (mOr ta tb env) (if a then .ret true else b) := x_testP ha (by
  cases a
  · exact hb
  · exact Rf.ret rfl)
theorem r_not {ta : DT} {env : DEnv} {a : M Bool} (ha : EvT (ta env) a) : EvT (mNot ta env) (a >>= fun k => .ret !k) := x_test ha fun k => Rf.ret rfl
theorem r_asB {m : M D} {t : M Bool} (h : Ev eB m t) : EvT (m >>= asB) t := .of fun P q => M.wp_bind.mpr (h.run _ (M.wp_mono q fun a q d r => by
  have r : d = eB a := r
  subst r; exact q a rfl))
/-! ### what is done to plain data -/
theorem dEq_pl {d d' : D} (h : d.pl 64 = true) (h' : d'.pl 64 = true) : dEq d d' = .ret (.bl (D.beq d d')) := by
  cases d <;> first | (simp [D.pl] at h; done) | (unfold dEq; simp only [h, h']; rfl)
theorem dNe_pl {d d' : D} (h : d.pl 64 = true) (h' : d'.pl 64 = true) : dNe d d' = .ret (.bl (!D.beq d d')) := by
  cases d <;> first | (simp [D.pl] at h; done) | (unfold dNe; simp only [h, h']; rfl)
section
variable [DecidableEq α] {n : Nat}
theorem o_eqE (c : Ec n e) (hn : n ≤ 64 := by decide) (a b : α) : dEq (e a) (e b) = .ret (eB (decide (a = b))) := by
  rw [dEq_pl (D.pl_mono _ hn (c.pl a)) (D.pl_mono _ hn (c.pl b)), c.beq]; rfl
theorem o_neE (c : Ec n e) (hn : n ≤ 64 := by decide) (a b : α) : dNe (e a) (e b) = .ret (eB (!decide (a = b))) := by
  rw [dNe_pl (D.pl_mono _ hn (c.pl a)) (D.pl_mono _ hn (c.pl b)), c.beq]; rfl
theorem memD_map (c : Ec n e) (a : α) : ∀ xs : List α, memD (e a) (xs.map e) = decide (a ∈ xs)
  | [] => by simp [memD]
  | x :: xs => by
    have ih := memD_map c a xs
    unfold memD at ih ⊢
    rw [List.map_cons, List.any_cons, ih, c.beq]
    by_cases h : x = a
    · simp [h]
    · have h' : ¬ a = x := fun z => h z.symm
      simp [h, h']
theorem o_inL (c : Ec n e) (hn : n ≤ 63 := by decide) (a : α) (xs : List α) : dInX (e a) (eL e xs) = .ret (eB (decide (a ∈ xs))) := by
  show dIn (e a) (.lst (xs.map e)) = _
  have h1 := D.pl_mono _ hn (c.pl a)
  have h2 := D.plL_mono _ hn (plL_map c xs)
  cases hd : e a <;> rw [hd] at h1 <;> first | (simp [D.pl] at h1; done) | (unfold dIn; simp only [h1, h2]; rw [← hd, memD_map c]; rfl)
theorem o_inV (c : Ec n e) (hn : n ≤ 63 := by decide) (a : α) (xs : List α) : dInX (e a) (eV e xs) = .ret (eB (decide (a ∈ xs))) := by
  show dIn (e a) (.tup (xs.map e)) = _
  have h1 := D.pl_mono _ hn (c.pl a)
  have h2 := D.plL_mono _ hn (plL_map c xs)
  cases hd : e a <;> rw [hd] at h1 <;> first | (simp [D.pl] at h1; done) | (unfold dIn; simp only [h1, h2]; rw [← hd, memD_map c]; rfl)
theorem o_notInL (c : Ec n e) (hn : n ≤ 63 := by decide) (a : α) (xs : List α) : dNotInX (e a) (eL e xs) = .ret (eB (!decide (a ∈ xs))) := by
  show dNotIn (e a) (.lst (xs.map e)) = _
  have h1 := D.pl_mono _ hn (c.pl a)
  have h2 := D.plL_mono _ hn (plL_map c xs)
  cases hd : e a <;> rw [hd] at h1 <;> first | (simp [D.pl] at h1; done) | (unfold dNotIn; simp only [h1, h2]; rw [← hd, memD_map c]; rfl)
theorem o_notInV (c : Ec n e) (hn : n ≤ 63 := by decide) (a : α) (xs : List α) : dNotInX (e a) (eV e xs) = .ret (eB (!decide (a ∈ xs))) := by
  show dNotIn (e a) (.tup (xs.map e)) = _
  have h1 := D.pl_mono _ hn (c.pl a)
  have h2 := D.plL_mono _ hn (plL_map c xs)
  cases hd : e a <;> rw [hd] at h1 <;> first | (simp [D.pl] at h1; done) | (unfold dNotIn; simp only [h1, h2]; rw [← hd, memD_map c]; rfl)
end
theorem o_lenL (xs : List α) : dLen [eL e xs] = .ret (eI xs.length) := by show M.ret (D.int (xs.map e).length) = _; rw [List.length_map]; rfl
theorem o_lenV (xs : List α) : dLen [eV e xs] = .ret (eI xs.length) := by show M.ret (D.int (xs.map e).length) = _; rw [List.length_map]; rfl
theorem cutD_map (xs : List α) (lo hi : Option Int) : cutD (xs.map e) lo hi = (cutD xs lo hi).map e := by
  unfold cutD; rw [List.length_map, List.map_take, List.map_drop]
theorem o_slL (xs : List α) (lo hi : Option Int) : dSl (eL e xs) lo hi = .ret (eL e (cutD xs lo hi)) := by show M.ret (D.lst (cutD (xs.map e) lo hi)) = _; rw [cutD_map]; rfl
theorem o_slV (xs : List α) (lo hi : Option Int) : dSl (eV e xs) lo hi = .ret (eV e (cutD xs lo hi)) := by show M.ret (D.tup (cutD (xs.map e) lo hi)) = _; rw [cutD_map]; rfl
theorem o_slLF (xs : List α) (lo hi : Option Int) : dSlL (eL e xs) lo hi = .ret (eL e (cutD xs lo hi)) := by show M.ret (D.lst (cutD (xs.map e) lo hi)) = _; rw [cutD_map]; rfl
def ixM (xs : List α) (i : Int) : M α := M.opt (atI xs i)
theorem atI_map (xs : List α) (i : Int) : atI (xs.map e) i = (atI xs i).map e := by
  unfold atI
  rw [List.length_map]
  cases ixN xs.length i with
  | none => rfl
  | some j => show (xs.map e)[j]? = _; rw [List.getElem?_map]; rfl
theorem r_ix (xs : List α) (i : Int) : Ev e (dIx (eL e xs) (eI i)) (ixM xs i) := by
  show Ev e (M.opt (atI (xs.map e) i)) (M.opt (atI xs i))
  rw [atI_map]
  cases atI xs i with
  | none => exact Rf.fail
  | some a => exact Rf.ret rfl
theorem r_ixV (xs : List α) (i : Int) : Ev e (dIx (eV e xs) (eI i)) (ixM xs i) := r_ix xs i
def catM (xs ys : List α) : M (List α) := if xs.length + ys.length ≤ sizeLine then .ret (xs ++ ys) else .fail
theorem r_cat (xs ys : List α) : Ev (eL e) (dAdd (eL e xs) (eL e ys)) (catM xs ys) := by
  show Ev (eL e) (if (xs.map e).length + (ys.map e).length ≤ sizeLine then .ret (.lst (xs.map e ++ ys.map e)) else .fail) _
  rw [List.length_map, List.length_map, ← List.map_append]
  unfold catM
  split
  · exact Rf.ret rfl
  · exact Rf.fail
theorem r_catV (xs ys : List α) : Ev (eV e) (dAdd (eV e xs) (eV e ys)) (catM xs ys) := by
  show Ev (eV e) (if (xs.map e).length + (ys.map e).length ≤ sizeLine then .ret (.tup (xs.map e ++ ys.map e)) else .fail) _
  rw [List.length_map, List.length_map, ← List.map_append]
  unfold catM
  split
  · exact Rf.ret rfl
  · exact Rf.fail
end
end DL

set_option Elab.async false
set_option linter.all false
set_option maxRecDepth 100000
/-! DL19: statements of mirrors by plain functions. -/
namespace DL
open PySem PySem.Spec L2
open PyProof.Rows hiding St

/-- a def's result: what it returns; None at its end -/
def RFn {ρ : Type} (eρ : ρ → D) : ρ → Fl × DEnv → Prop := fun r p => p.1 = .rt (eρ r) ∨ (p.1 = .nx ∧ eρ r = .non)
/-- .. and it does not go on -/
def RR {α : Type} (R : α → Fl × DEnv → Prop) : α → Fl × DEnv → Prop := fun a p => p.1 ≠ .nx ∧ R a p
section
variable {α β γ δ σ ρ : Type} {R : β → Fl × DEnv → Prop} {e : α → D} {eρ : ρ → D} {env env' : DEnv} {me : DE} {rest m a b : DS} {c : DT} {i j : Nat} {d d' : D} {E : σ → DEnv} {ws : List Nat}
theorem rf_fn {N : Nat} {bs : List Bool} {mb : DS} {ds : List D} {t : M ρ} (h : Rf (RFn eρ) (mb (envOf N bs ds)) t) : Ev eρ (fnM N bs mb ds) t := .of fun P q => by
  unfold fnM
  refine M.wp_bind.mpr (h.run _ (M.wp_mono q fun r q p hp => ?_))
  obtain ⟨fl, en⟩ := p
  rcases hp with hp | ⟨h1, h2⟩
  · have hp : fl = .rt (eρ r) := hp
    subst hp; exact q _ rfl
  · have h1 : fl = .nx := h1
    subst h1
    exact q _ h2.symm
theorem s_setP {t : M β} (h : me env = .ret d) (k : Rf R (rest (env.set i (some (.val d)))) t) : Rf R (mSeq (mSetV i me) rest env) t := by
  unfold mSeq mSetV; rw [h]; exact k
theorem s_setE {t1 : M α} {t : α → M β} (h : Ev e (me env) t1) (k : ∀ x, Rf R (rest (env.set i (some (.val (e x))))) (t x)) : Rf R (mSeq (mSetV i me) rest env) (t1 >>= t) := by
  have q : mSeq (mSetV i me) rest env = (me env >>= fun d => rest (env.set i (some (.val d)))) := by
    show ((me env).bind fun d => M.ret (Fl.nx, env.set i (some (.val d)))).bind _ = _
    rw [M.bind_assoc']; rfl
  rw [q]; exact x_bind h k
theorem s_setOP {t : M β} (h : me env = .ret d) (k : Rf R (rest (env.set i (some (.own d)))) t) : Rf R (mSeq (mSetO i me) rest env) t := by
  unfold mSeq mSetO; rw [h]; exact k
theorem s_setOE {t1 : M α} {t : α → M β} (h : Ev e (me env) t1) (k : ∀ x, Rf R (rest (env.set i (some (.own (e x))))) (t x)) : Rf R (mSeq (mSetO i me) rest env) (t1 >>= t) := by
  have q : mSeq (mSetO i me) rest env = (me env >>= fun d => rest (env.set i (some (.own d)))) := by
    show ((me env).bind fun d => M.ret (Fl.nx, env.set i (some (.own d)))).bind _ = _
    rw [M.bind_assoc']; rfl
  rw [q]; exact x_bind h k
theorem s_asgP {gg : DG} {t : M β} (h : me env = .ret d) (hg : gg d env = .ret env') (k : Rf R (rest env') t) : Rf R (mSeq (mAsg gg me) rest env) t := by
  unfold mSeq mAsg; rw [h]
  show Rf R ((gg d env >>= _) >>= _) t
  rw [hg]; exact k
theorem s_asgE {gg : DG} {E' : α → DEnv} {t1 : M α} {t : α → M β} (h : Ev e (me env) t1) (hg : ∀ x, gg (e x) env = .ret (E' x)) (k : ∀ x, Rf R (rest (E' x)) (t x)) : Rf R (mSeq (mAsg gg me) rest env) (t1 >>= t) := by
  have q : mSeq (mAsg gg me) rest env = (me env >>= fun d => gg d env >>= fun env' => rest env') := by
    show ((me env).bind fun d => (gg d env).bind fun env' => M.ret (Fl.nx, env')).bind _ = _
    rw [M.bind_assoc']
    congr 1; funext d
    rw [M.bind_assoc']; rfl
  rw [q]
  refine x_bind h fun x => ?_
  rw [hg]; exact k x
theorem s_parP {ms : DA} {t : M β} (h : ms env = .ret [d, d']) (k : Rf R (rest ((env.set i (some (.val d))).set j (some (.val d')))) t) : Rf R (mSeq (mPar i j ms) rest env) t := by
  unfold mSeq mPar; rw [h]; exact k
def parK (i j : Nat) (rest : DS) (env : DEnv) : List D → M (Fl × DEnv) := fun ds => match ds with
  | [d, d'] => rest ((env.set i (some (.val d))).set j (some (.val d')))
  | _ => .fail
theorem s_parK {ms : DA} {t : M β} (h : Rf R (ms env >>= parK i j rest env) t) : Rf R (mSeq (mPar i j ms) rest env) t := by
  have q : mSeq (mPar i j ms) rest env = (ms env >>= parK i j rest env) := by
    show ((ms env).bind fun ds => _).bind _ = (ms env).bind _
    rw [M.bind_assoc']
    congr 1; funext ds
    match ds with
    | [] => rfl
    | [_] => rfl
    | [_, _] => rfl
    | _ :: _ :: _ :: _ => rfl
  rw [q]; exact h
theorem s_retP {r : ρ} {x : β} (hR : ∀ en, R x (.rt (eρ r), en)) (h : me env = .ret (eρ r)) : Rf R (mRet me env) (.ret x) := by
  unfold mRet; rw [h]; exact Rf.ret (hR env)
theorem s_retE {t : M ρ} {f : ρ → β} (hR : ∀ r en, R (f r) (.rt (eρ r), en)) (h : Ev eρ (me env) t) : Rf R (mRet me env) (t >>= fun r => .ret (f r)) := x_bind h fun r => Rf.ret (hR r env)
theorem s_retF {t : M ρ} {R : ρ → Fl × DEnv → Prop} (hR : ∀ r en, R r (.rt (eρ r), en)) (h : Ev eρ (me env) t) : Rf R (mRet me env) t := .of fun P q => M.wp_bind.mpr (h.run _ (M.wp_mono q fun r q d hd => by
  have hd : d = eρ r := hd
  subst hd; exact q _ (hR r env)))
theorem s_pass {r : ρ} (h : eρ r = .non) : Rf (RFn eρ) (mPass env) (.ret r) := Rf.ret (.inr ⟨rfl, h⟩)
theorem s_if {tc : M Bool} {ta tb : M β} (ht : EvT (c env) tc) (ha : Rf R (a env) ta) (hb : Rf R (b env) tb) : Rf R (mIf c a b env) (tc >>= fun k => if k then ta else tb) := x_test ht fun k => by
  cases k
  · exact hb
  · exact ha
theorem s_ifP {k : Bool} {ta tb : M β} (ht : c env = .ret k) (ha : Rf R (a env) ta) (hb : Rf R (b env) tb) : Rf R (mIf c a b env) (if k then ta else tb) := x_testP ht (by
  cases k
  · exact hb
  · exact ha)
theorem seq_if : mSeq (mIf c a b) rest env = (c env >>= fun k => if k then mSeq a rest env else mSeq b rest env) := by
  show ((c env).bind fun k => if k then a env else b env).bind _ = _
  rw [M.bind_assoc']
  congr 1; funext k
  cases k <;> rfl
theorem seq_ret' {t : M β} (h : Rf (RR R) (a env) t) : Rf R (mSeq a rest env) t := .of fun P q => M.wp_bind.mpr (h.run _ (M.wp_mono q fun r q p hp => by
  obtain ⟨fl, en⟩ := p
  obtain ⟨h1, h2⟩ := hp
  cases fl with
  | nx => exact absurd rfl h1
  | _ => exact q _ h2))
/-- if the test is so, it returns -/
theorem s_iff {tc : M Bool} {ta tb : M β} (ht : EvT (c env) tc) (ha : Rf (RR R) (a env) ta) (hb : Rf R (mSeq b rest env) tb) : Rf R (mSeq (mIf c a b) rest env) (tc >>= fun k => if k then ta else tb) := by
  rw [seq_if]
  exact x_test ht fun k => by
    cases k
    · exact hb
    · exact seq_ret' ha
theorem s_iffP {k : Bool} {ta tb : M β} (ht : c env = .ret k) (ha : Rf (RR R) (a env) ta) (hb : Rf R (mSeq b rest env) tb) : Rf R (mSeq (mIf c a b) rest env) (if k then ta else tb) := by
  rw [seq_if]
  exact x_testP ht (by
    cases k
    · exact hb
    · exact seq_ret' ha)
/-- a statement that goes on, its state told -/
theorem s_next {tl : M σ} {t : σ → M β} (h : Rf (RN E) (a env) tl) (k : ∀ s, Rf R (rest (E s)) (t s)) : Rf R (mSeq a rest env) (tl >>= t) := h.bind fun s p hp => by
  have hp : p = (.nx, E s) := hp
  subst hp; exact k s
def contR {σ ρ β : Type} (t : σ → M β) (f : ρ → β) : Fw σ ρ → M β
  | .go s => t s
  | .brk _ => .fail
  | .back r => .ret (f r)
/-- .. or returns -/
theorem s_nextR {tl : M (Fw σ ρ)} {t : σ → M β} {f : ρ → β} (hR : ∀ r en, R (f r) (.rt (eρ r), en)) (h : Rf (RLp E eρ) (a env) tl) (k : ∀ s, Rf R (rest (E s)) (t s)) :
    Rf R (mSeq a rest env) (tl >>= contR t f) := h.bind fun o p hp => by
  cases o with
  | go s =>
    have hp : p = (.nx, E s) := hp
    subst hp; exact k s
  | brk s => exact Rf.fail
  | back r =>
    obtain ⟨fl, en⟩ := p
    have hp : fl = .rt (eρ r) := hp
    subst hp; exact Rf.ret (hR r en)
theorem l_for {mi : DI} {gg : DG} {mb : DS} {xs : List α} {R' : γ → Fl × DEnv → Prop} {tl : M γ} (hi : mi env = .ret (xs.map e)) (h : Rf R' (mForL gg mb (xs.map e) env) tl) : Rf R' (mFor mi gg mb env) tl := by
  unfold mFor; rw [hi]; exact h
theorem l_forE {mi : DI} {gg : DG} {mb : DS} {R' : γ → Fl × DEnv → Prop} {tx : M (List α)} {tl : List α → M γ} (hi : Rf (fun xs ds => ds = xs.map e) (mi env) tx) (h : ∀ xs, Rf R' (mForL gg mb (xs.map e) env) (tl xs)) : Rf R' (mFor mi gg mb env) (tx >>= tl) := hi.bind fun xs ds hd => by
  subst hd; exact h xs
/-- ends of blocks -/
theorem e_goN {s : σ} (h : wipeE env ws = E s) : Rf (RN E) (mForget ws mPass env) (.ret s) := by
  show Rf (RN E) (.ret (Fl.nx, wipeE env ws)) _; rw [h]; exact Rf.ret rfl
theorem e_goX {s : σ} (h : wipeE env ws = E s) : Rf (RX E) (mForget ws mPass env) (.ret s) := by
  show Rf (RX E) (.ret (Fl.nx, wipeE env ws)) _; rw [h]; exact Rf.ret (.inl rfl)
theorem e_goT {s : σ} (h : wipeE env ws = E s) : Rf (RTn E eρ) (mForget ws mPass env) (.ret (.go s)) := by
  show Rf (RTn E eρ) (.ret (Fl.nx, wipeE env ws)) _; rw [h]; exact Rf.ret (.inl rfl)
theorem e_goL {s : σ} (h : wipeE env ws = E s) : Rf (RLp E eρ) (mForget ws mPass env) (.ret (.go s)) := by
  show Rf (RLp E eρ) (.ret (Fl.nx, wipeE env ws)) _; rw [h]; exact Rf.ret rfl
theorem e_cntX {s : σ} (h : wipeE env ws = E s) : Rf (RX E) (mForget ws mCnt env) (.ret s) := by
  show Rf (RX E) (.ret (Fl.ct, wipeE env ws)) _; rw [h]; exact Rf.ret (.inr rfl)
theorem e_cntT {s : σ} (h : wipeE env ws = E s) : Rf (RTn E eρ) (mForget ws mCnt env) (.ret (.go s)) := by
  show Rf (RTn E eρ) (.ret (Fl.ct, wipeE env ws)) _; rw [h]; exact Rf.ret (.inr rfl)
theorem s_forget {t : M β} (h : Rf R (m (wipeE env ws)) t) : Rf R (mForget ws m env) t := h
theorem s_frz {t : M β} (h : mFrz i m env = m env') (k : Rf R (m env') t) : Rf R (mFrz i m env) t := by rw [h]; exact k
def appM (xs : List α) (x : α) : M (List α) := if xs.length < sizeLine then .ret (xs ++ [x]) else .fail
theorem s_appP {xs : List α} {x : α} {t : List α → M β} (h : me env = .ret (e x)) (hx : env[i]? = some (some (.own (eL e xs)))) (k : ∀ ys, Rf R (rest (env.set i (some (.own (eL e ys))))) (t ys)) : Rf R (mSeq (mAppend i me) rest env) (appM xs x >>= t) := by
  unfold mSeq mAppend
  rw [h]
  show Rf R ((match env[i]? with
    | some (some (.own (.lst xs))) => if xs.length < sizeLine then M.ret (Fl.nx, env.set i (some (.own (.lst (xs ++ [e x]))))) else .fail
    | _ => .fail) >>= _) _
  rw [hx]
  show Rf R ((if (xs.map e).length < sizeLine then M.ret (Fl.nx, env.set i (some (.own (.lst (xs.map e ++ [e x]))))) else .fail) >>= _) _
  rw [List.length_map]
  unfold appM
  split
  · have q := k (xs ++ [x])
    unfold eL at q
    rw [List.map_append] at q
    exact q
  · exact Rf.fail
theorem s_appE {xs : List α} {t1 : M α} {t : List α → M β} (h : Ev e (me env) t1) (hx : env[i]? = some (some (.own (eL e xs)))) (k : ∀ ys, Rf R (rest (env.set i (some (.own (eL e ys))))) (t ys)) : Rf R (mSeq (mAppend i me) rest env) (t1 >>= fun x => appM xs x >>= t) := by
  have q : mSeq (mAppend i me) rest env = (me env >>= fun d => mSeq (mAppend i (mC d)) rest env) := by
    show ((me env).bind fun d => _).bind _ = _
    rw [M.bind_assoc']; rfl
  rw [q]
  exact x_bind h fun x => s_appP (e := e) rfl hx k
theorem s_extP {xs zs : List α} {t : List α → M β} (h : me env = .ret (eL e zs)) (hx : env[i]? = some (some (.own (eL e xs)))) (k : ∀ ys, Rf R (rest (env.set i (some (.own (eL e ys))))) (t ys)) : Rf R (mSeq (mExtend i me) rest env) (catM xs zs >>= t) := by
  unfold mSeq mExtend
  rw [h]
  show Rf R ((match env[i]?, eL e zs with
    | some (some (.own (.lst xs))), .lst ys => if xs.length + ys.length ≤ sizeLine then M.ret (Fl.nx, env.set i (some (.own (.lst (xs ++ ys))))) else .fail
    | _, _ => .fail) >>= _) _
  rw [hx]
  show Rf R ((if (xs.map e).length + (zs.map e).length ≤ sizeLine then M.ret (Fl.nx, env.set i (some (.own (.lst (xs.map e ++ zs.map e))))) else .fail) >>= _) _
  rw [List.length_map, List.length_map]
  unfold catM
  split
  · have q := k (xs ++ zs)
    unfold eL at q
    rw [List.map_append] at q
    exact q
  · exact Rf.fail
theorem s_extE {xs : List α} {t1 : M (List α)} {t : List α → M β} (h : Ev (eL e) (me env) t1) (hx : env[i]? = some (some (.own (eL e xs)))) (k : ∀ ys, Rf R (rest (env.set i (some (.own (eL e ys))))) (t ys)) : Rf R (mSeq (mExtend i me) rest env) (t1 >>= fun zs => catM xs zs >>= t) := by
  have q : mSeq (mExtend i me) rest env = (me env >>= fun d => mSeq (mExtend i (mC d)) rest env) := by
    show ((me env).bind fun d => _).bind _ = _
    rw [M.bind_assoc']; rfl
  rw [q]
  exact x_bind h fun zs => s_extP (e := e) rfl hx k
end
end DL

set_option Elab.async false
set_option linter.all false
set_option maxRecDepth 100000
/-! DL20: further expressions of mirrors by plain functions. -/
namespace DL
open PySem PySem.Spec L2
open PyProof.Rows hiding St
section
variable {α β γ δ : Type} {R : β → δ → Prop} {e : α → D} {f : β → D} {env : DEnv} {ma mb mc : DE} {op : D → D → M D} {x y z : D}
theorem ev_id (m : M D) : Ev eD m m := .of fun P q => M.wp_mono q fun a h => h a rfl
section
variable {R : γ → D → Prop} {e1 : α → D} {e2 : β → D}
theorem b_PP {t : M γ} (a : ma env = .ret x) (b : mb env = .ret y) (h : Rf R (op x y) t) : Rf R (mBin op ma mb env) t := by
  unfold mBin; rw [a]; show Rf R (mb env >>= _) t; rw [b]; exact h
theorem b_EP {t1 : M α} {k : α → M γ} (a : Ev e1 (ma env) t1) (b : mb env = .ret y) (h : ∀ v, Rf R (op (e1 v) y) (k v)) : Rf R (mBin op ma mb env) (t1 >>= k) := x_bind a fun v => x_bindP b (h v)
theorem b_PE {t1 : M β} {k : β → M γ} (a : ma env = .ret x) (b : Ev e2 (mb env) t1) (h : ∀ v, Rf R (op x (e2 v)) (k v)) : Rf R (mBin op ma mb env) (t1 >>= k) := x_bindP a (x_bind b h)
theorem b_EE {t1 : M α} {t2 : M β} {k : α → β → M γ} (a : Ev e1 (ma env) t1) (b : Ev e2 (mb env) t2) (h : ∀ v w, Rf R (op (e1 v) (e2 w)) (k v w)) : Rf R (mBin op ma mb env) (t1 >>= fun v => t2 >>= fun w => k v w) := x_bind a fun v => x_bind b (h v)
end
theorem t_E {t : M Bool} (h : Ev eB (mBin op ma mb env) t) : EvT (mBinT op ma mb env) t := r_asB h
theorem a_nil {ρ δ : Type} {R : ρ → δ → Prop} {g : List D → M δ} {t : M ρ} (h : Rf R (g []) t) : Rf R (aNil env >>= g) t := h
theorem c_call {ρ : Type} {R : ρ → D → Prop} {op : List D → M D} {ms : DA} {t : M ρ} (h : Rf R (ms env >>= op) t) : Rf R (mCall op ms env) t := h
theorem p_len {n : Nat} (h : n ≤ 1000 := by decide) : n ≤ sizeLine := by rw [sizeLine_eq]; omega
theorem p_tup {ms : DA} {ds : List D} (a : ms env = .ret ds) (h : ds.length ≤ sizeLine) : mTup ms env = .ret (.tup ds) := by
  unfold mTup; rw [a]; show (if ds.length ≤ sizeLine then _ else _) = _; rw [if_pos h]
theorem p_lst {ms : DA} {ds : List D} (a : ms env = .ret ds) (h : ds.length ≤ sizeLine) : mLst ms env = .ret (.lst ds) := by
  unfold mLst; rw [a]; show (if ds.length ≤ sizeLine then _ else _) = _; rw [if_pos h]
theorem r_tup {ρ : Type} {R : ρ → D → Prop} {ms : DA} {t : M ρ} (h : Rf R (ms env >>= fun xs => if xs.length ≤ sizeLine then .ret (.tup xs) else .fail) t) : Rf R (mTup ms env) t := h
theorem r_lst {ρ : Type} {R : ρ → D → Prop} {ms : DA} {t : M ρ} (h : Rf R (ms env >>= fun xs => if xs.length ≤ sizeLine then .ret (.lst xs) else .fail) t) : Rf R (mLst ms env) t := h
theorem k_disp {ρ : Type} {R : ρ → D → Prop} {ds : List D} {d : D} {r : ρ} (h : ds.length ≤ sizeLine) (hr : R r d) : Rf R (if ds.length ≤ sizeLine then .ret d else .fail) (.ret r) := by rw [if_pos h]; exact Rf.ret hr
theorem p_ifE {c : DT} {k : Bool} (a : c env = .ret k) {va vb : α} (ha : ma env = .ret (e va)) (hb : mb env = .ret (e vb)) : mIfE c ma mb env = .ret (e (if k then va else vb)) := by
  unfold mIfE; rw [a]; cases k
  · exact hb
  · exact ha
theorem r_ifE {c : DT} {tc : M Bool} {ta tb : M α} (a : EvT (c env) tc) (ha : Ev e (ma env) ta) (hb : Ev e (mb env) tb) : Ev e (mIfE c ma mb env) (tc >>= fun k => if k then ta else tb) := x_test a fun k => by
  cases k
  · exact hb
  · exact ha
theorem r_ifEP {c : DT} {k : Bool} {ta tb : M α} (a : c env = .ret k) (ha : Ev e (ma env) ta) (hb : Ev e (mb env) tb) : Ev e (mIfE c ma mb env) (if k then ta else tb) := x_testP a (by
  cases k
  · exact hb
  · exact ha)
/-- and, or, not of truth values -/
theorem p_andV {a b : Bool} (ha : ma env = .ret (eB a)) (hb : mb env = .ret (eB b)) : mAndV ma mb env = .ret (eB (a && b)) := by
  unfold mAndV; rw [ha]; cases a
  · rfl
  · exact hb
theorem p_orV {a b : Bool} (ha : ma env = .ret (eB a)) (hb : mb env = .ret (eB b)) : mOrV ma mb env = .ret (eB (a || b)) := by
  unfold mOrV; rw [ha]; cases a
  · exact hb
  · rfl
theorem p_notV {d : D} {k : Bool} (ha : ma env = .ret d) (h : truM d = .ret k) : mNotV ma env = .ret (eB !k) := by
  unfold mNotV; rw [ha]; show (truM d >>= _) = _; rw [h]; rfl
theorem r_andV {a b : M Bool} (ha : Ev eB (ma env) a) (hb : Ev eB (mb env) b) : Ev eB (mAndV ma mb env) (a >>= fun k => if k then b else .ret false) := x_bind ha fun k => by
  cases k
  · exact Rf.ret rfl
  · exact hb
theorem r_orV {a b : M Bool} (ha : Ev eB (ma env) a) (hb : Ev eB (mb env) b) : Ev eB (mOrV ma mb env) (a >>= fun k => if k then .ret true else b) := x_bind ha fun k => by
  cases k
  · exact hb
  · exact Rf.ret rfl
theorem r_truE {t : M α} {f : α → Bool} (ha : Ev e (ma env) t) (h : ∀ a, truM (e a) = .ret (f a)) : EvT (mTru ma env) (t >>= fun a => .ret (f a)) := x_bind ha fun a => by rw [h]; exact Rf.ret rfl
theorem t_L (xs : List α) : truM (eL e xs) = .ret (!xs.isEmpty) := by cases xs <;> rfl
theorem t_V (xs : List α) : truM (eV e xs) = .ret (!xs.isEmpty) := by cases xs <;> rfl
theorem nnT1 (a : α) : eT1 e a ≠ .non := fun h => D.noConfusion (show D.tup _ = D.non from h)
theorem nnT2 (a : α × β) : eT2 e f a ≠ .non := fun h => D.noConfusion (show D.tup _ = D.non from h)
theorem nnL (a : List α) : eL e a ≠ .non := fun h => D.noConfusion (show D.lst _ = D.non from h)
theorem nnV (a : List α) : eV e a ≠ .non := fun h => D.noConfusion (show D.tup _ = D.non from h)
theorem nnI (a : Int) : eI a ≠ .non := fun h => D.noConfusion (show D.int _ = D.non from h)
theorem nnS (a : Str) : eS a ≠ .non := fun h => D.noConfusion (show D.str _ = D.non from h)
/-- None or not -/
theorem o_isO (nn : ∀ a, e a ≠ .non) (o : Option α) : dIs (eO e o) .non = .ret (eB o.isNone) := by
  cases o with
  | none => rfl
  | some a =>
    have := nn a
    show dIs (e a) .non = _
    cases h : e a <;> first | (exact absurd h this) | rfl
theorem o_isNotO (nn : ∀ a, e a ≠ .non) (o : Option α) : dIsNot (eO e o) .non = .ret (eB !o.isNone) := by
  cases o with
  | none => rfl
  | some a =>
    have := nn a
    show dIsNot (e a) .non = _
    cases h : e a <;> first | (exact absurd h this) | rfl
theorem r_isD (d : D) : Ev eB (dIs d .non) (.ret (match d with | .non => true | _ => false)) := by cases d <;> exact Rf.ret rfl
/-! what is walked -/
theorem i_L {m : DE} {xs : List α} (h : m env = .ret (eL e xs)) : iOver m env = .ret (xs.map e) := by unfold iOver; rw [h]; rfl
theorem i_V {m : DE} {xs : List α} (h : m env = .ret (eV e xs)) : iOver m env = .ret (xs.map e) := by unfold iOver; rw [h]; rfl
theorem i_LE {m : DE} {t : M (List α)} (h : Ev (eL e) (m env) t) : Rf (fun xs ds => ds = xs.map e) (iOver m env) t := .of fun P q => M.wp_bind.mpr (h.run _ (M.wp_mono q fun a q d r => by
  have r : d = eL e a := r
  subst r; exact q _ rfl))
theorem i_VE {m : DE} {t : M (List α)} (h : Ev (eV e) (m env) t) : Rf (fun xs ds => ds = xs.map e) (iOver m env) t := .of fun P q => M.wp_bind.mpr (h.run _ (M.wp_mono q fun a q d r => by
  have r : d = eV e a := r
  subst r; exact q _ rfl))
def enumT : Nat → List α → List (Int × α)
  | _, [] => []
  | i, x :: xs => ((i : Int), x) :: enumT (i + 1) xs
theorem enum_map : ∀ (i : Nat) (xs : List α), enumD i (xs.map e) = (enumT i xs).map (eT2 eI e)
  | _, [] => rfl
  | i, x :: xs => by rw [List.map_cons, enumD, enumT, List.map_cons, enum_map (i + 1) xs]; rfl
theorem i_enum {m : DE} {xs : List α} (h : m env = .ret (eL e xs)) : iEnumD m env = .ret ((enumT 0 xs).map (eT2 eI e)) := by
  unfold iEnumD; rw [h]; show M.ret (enumD 0 (xs.map e)) = _; rw [enum_map]
theorem i_enumE {m : DE} {t : M (List α)} (h : Ev (eL e) (m env) t) : Rf (fun xs ds => ds = xs.map (eT2 eI e)) (iEnumD m env) (t >>= fun xs => .ret (enumT 0 xs)) := x_bind h fun xs => by
  show Rf _ (.ret (enumD 0 (xs.map e))) _
  rw [enum_map]; exact Rf.ret rfl
def rgT (a b : Int) : List Int := (List.range (b - a).toNat).map fun i => a + (i : Nat)
def rgM (a b : Int) : M (List Int) := if rgOk a b then .ret (rgT a b) else .fail
theorem rg_map (a b : Int) : rgD a b = (rgT a b).map eI := by unfold rgD rgT; rw [List.map_map]; rfl
theorem i_rg1 {m : DE} {b : Int} (h : m env = .ret (eI b)) : Rf (fun xs ds => ds = xs.map eI) (iRg1 m env) (rgM 0 b) := by
  unfold iRg1; rw [h]
  show Rf _ (if rgOk 0 b then M.ret (rgD 0 b) else .fail) _
  unfold rgM
  split
  · exact Rf.ret (rg_map _ _)
  · exact Rf.fail
theorem i_rg1E {m : DE} {t : M Int} (h : Ev eI (m env) t) : Rf (fun xs ds => ds = xs.map eI) (iRg1 m env) (t >>= fun b => rgM 0 b) := x_bind h fun b => by
  show Rf _ (if rgOk 0 b then M.ret (rgD 0 b) else .fail) _
  unfold rgM
  split
  · exact Rf.ret (rg_map _ _)
  · exact Rf.fail
theorem i_rg2 {m m' : DE} {a b : Int} (h : m env = .ret (eI a)) (h' : m' env = .ret (eI b)) : Rf (fun xs ds => ds = xs.map eI) (iRg2 m m' env) (rgM a b) := by
  unfold iRg2; rw [h]; show Rf _ (m' env >>= _) _; rw [h']
  show Rf _ (if rgOk a b then M.ret (rgD a b) else .fail) _
  unfold rgM
  split
  · exact Rf.ret (rg_map _ _)
  · exact Rf.fail
/-! comprehensions -/
def lcM (c : α → M Bool) (f : α → M β) : List α → M (List β)
  | [] => .ret []
  | x :: xs => c x >>= fun k => if k then f x >>= fun y => lcM c f xs >>= fun ys => .ret (y :: ys) else lcM c f xs
theorem lcM_pure (c : α → Bool) (f : α → β) : ∀ xs : List α, lcM (fun x => .ret (c x)) (fun x => .ret (f x)) xs = .ret ((xs.filter c).map f)
  | [] => rfl
  | x :: xs => by
    show (if c x then (lcM _ _ xs >>= fun ys => M.ret (f x :: ys)) else lcM _ _ xs) = _
    rw [lcM_pure c f xs, List.filter_cons]
    cases c x <;> rfl
theorem rf_lcL {gg : DG} {mt : DT} {me : DE} {envw : DEnv} {E1 : α → DEnv} {c : α → M Bool} {g : α → M β} (hg : ∀ x, gg (e x) envw = .ret (E1 x)) (ht : ∀ x, EvT (mt (E1 x)) (c x)) (he : ∀ x, Ev f (me (E1 x)) (g x)) :
    ∀ (xs : List α) (acc : List D), Rf (fun (ys : List β) ds => ds = acc ++ ys.map f) (mLcL gg mt me envw (xs.map e) acc) (lcM c g xs)
  | [], acc => Rf.ret (by simp)
  | x :: xs, acc => by
    show Rf _ (gg (e x) envw >>= fun env1 => mt env1 >>= _) (c x >>= _)
    rw [hg]
    refine x_test (ht x) fun k => ?_
    cases k with
    | true =>
      refine x_bind (he x) fun y => ?_
      have ih := rf_lcL hg ht he xs (acc ++ [f y])
      refine .of fun P q => ?_
      exact ih.run P (M.wp_mono (M.wp_bind.mp q) fun ys q d hd => q d (by rw [hd]; simp))
    | false => exact rf_lcL hg ht he xs acc
theorem r_lcE {vs : List Nat} {mi : DI} {gg : DG} {mt : DT} {me : DE} {E1 : α → DEnv} {tx : M (List α)} {c : α → M Bool} {g : α → M β} (ok : vs.all (notOwn env) = true) (hi : Rf (fun xs ds => ds = xs.map e) (mi env) tx)
    (hg : ∀ x, gg (e x) (wipeE env vs) = .ret (E1 x)) (ht : ∀ x, EvT (mt (E1 x)) (c x)) (he : ∀ x, Ev f (me (E1 x)) (g x)) : Ev (eL f) (mLc vs mi gg mt me env) (tx >>= fun xs => lcM c g xs) := by
  unfold mLc
  rw [if_pos ok]
  refine hi.bind fun xs ds hd => ?_
  subst hd
  refine .of fun P q => ?_
  exact M.wp_bind.mpr ((rf_lcL (f := f) hg ht he xs []).run _ (M.wp_mono q fun ys q d hd => q _ (by rw [hd]; rfl)))
theorem ri_ret {m : M (List D)} {xs : List α} (h : m = .ret (xs.map e)) : Rf (fun xs ds => ds = xs.map e) m (.ret xs) := by rw [h]; exact Rf.ret rfl
theorem r_lc {vs : List Nat} {mi : DI} {gg : DG} {mt : DT} {me : DE} {E1 : α → DEnv} {xs : List α} {c : α → M Bool} {g : α → M β} (ok : vs.all (notOwn env) = true) (hi : mi env = .ret (xs.map e))
    (hg : ∀ x, gg (e x) (wipeE env vs) = .ret (E1 x)) (ht : ∀ x, EvT (mt (E1 x)) (c x)) (he : ∀ x, Ev f (me (E1 x)) (g x)) : Ev (eL f) (mLc vs mi gg mt me env) (lcM c g xs) := r_lcE ok (ri_ret hi) hg ht he
theorem p_lc {vs : List Nat} {mi : DI} {gg : DG} {mt : DT} {me : DE} {E1 : α → DEnv} {xs : List α} {c : α → Bool} {g : α → β} (ok : vs.all (notOwn env) = true) (hi : mi env = .ret (xs.map e))
    (hg : ∀ x, gg (e x) (wipeE env vs) = .ret (E1 x)) (ht : ∀ x, mt (E1 x) = .ret (c x)) (he : ∀ x, me (E1 x) = .ret (f (g x))) : mLc vs mi gg mt me env = .ret (eL f ((xs.filter c).map g)) := by
  have loop : ∀ (xs : List α) (acc : List D), mLcL gg mt me (wipeE env vs) (xs.map e) acc = .ret (acc ++ ((xs.filter c).map g).map f) := by
    intro xs
    induction xs with
    | nil => intro acc; show M.ret acc = _; simp
    | cons x xs ih =>
      intro acc
      show (gg (e x) (wipeE env vs) >>= fun env1 => mt env1 >>= _) = _
      rw [hg]
      show (mt (E1 x) >>= _) = _
      rw [ht, List.filter_cons]
      cases hc : c x with
      | true =>
        show (me (E1 x) >>= _) = _
        rw [he]
        show mLcL gg mt me (wipeE env vs) (xs.map e) (acc ++ [f (g x)]) = _
        rw [ih]; simp
      | false =>
        show mLcL gg mt me (wipeE env vs) (xs.map e) acc = _
        rw [ih]; simp
  unfold mLc
  rw [if_pos ok, hi]
  show (mLcL gg mt me (wipeE env vs) (xs.map e) [] >>= _) = _
  rw [loop]; rfl
end
end DL

set_option Elab.async false
set_option linter.all false
set_option maxRecDepth 100000
/-! DL21: further expressions of mirrors by plain functions: orders, places, numbers. -/
namespace DL
open PySem PySem.Spec L2
open PyProof.Rows hiding St
section
variable {α β γ δ : Type} {R : β → Fl × DEnv → Prop} {e : α → D} {f : β → D} {env : DEnv} {m ma mb mc : DE} {op op' : D → D → M D} {rest : DS} {ws : List Nat}
theorem s_skip {t : M β} (h : Rf R (rest env) t) : Rf R (mSeq mPass rest env) t := h
theorem s_skipF {t : M β} (h : Rf R (rest (wipeE env ws)) t) : Rf R (mSeq (mForget ws mPass) rest env) t := h
theorem ev_some {m : M D} {t : M α} (h : Ev e m t) : Ev (eO e) m (t >>= fun a => .ret (some a)) := .of fun P q => h.run P (M.wp_mono (M.wp_bind.mp q) fun a q => q)
theorem ev_toD {m : M D} {t : M α} (h : Ev e m t) : Ev eD m (t >>= fun a => .ret (e a)) := .of fun P q => h.run P (M.wp_mono (M.wp_bind.mp q) fun a q => q)
theorem p_neg {a : Int} (h : m env = .ret (eI a)) : mNeg m env = .ret (eI (-a)) := by unfold mNeg; rw [h]; rfl
theorem r_neg {t : M Int} (h : Ev eI (m env) t) : Ev eI (mNeg m env) (t >>= fun a => .ret (-a)) := x_bind h fun a => Rf.ret rfl
theorem r_notV {t : M α} {k : α → Bool} (h : Ev e (m env) t) (hk : ∀ a, truM (e a) = .ret (k a)) : Ev eB (mNotV m env) (t >>= fun a => .ret (!k a)) := x_bind h fun a => by rw [hk]; exact Rf.ret rfl
theorem p_TE {k : Bool} (h : m env = .ret (eB k)) : mTE m env = .ret k := by unfold mTE; rw [h]; rfl
theorem t_TE {t : M Bool} (h : Ev eB (m env) t) : EvT (mTE m env) t := r_asB h
theorem p_chain {x y z : D} {a b : Bool} (hx : ma env = .ret x) (hy : mb env = .ret y) (hz : mc env = .ret z) (h1 : op x y = .ret (eB a)) (h2 : op' y z = .ret (eB b)) : mChain op op' ma mb mc env = .ret (eB (a && b)) := by
  unfold mChain
  rw [hx]; show (mb env >>= _) = _; rw [hy]; show ((op x y >>= asB) >>= _) = _; rw [h1]
  cases a
  · rfl
  · show (mc env >>= _) = _; rw [hz]; exact h2
def asBM (m : M D) : M Bool := m >>= asB
def asIM (m : M D) : M Int := m >>= asI
theorem ev_asB (m : M D) : Ev eB m (asBM m) := .of fun P q => M.wp_mono (M.wp_bind.mp q) fun d q => by
  cases d <;> first | exact q.elim | exact q _ rfl
theorem ev_asI (m : M D) : Ev eI m (asIM m) := .of fun P q => M.wp_mono (M.wp_bind.mp q) fun d q => by
  cases d <;> first | exact q.elim | exact q _ rfl
def isNonD : D → Bool
  | .non => true
  | _ => false
theorem o_isD (d : D) : dIs d .non = .ret (eB (isNonD d)) := by cases d <;> rfl
theorem o_isNotD (d : D) : dIsNot d .non = .ret (eB !isNonD d) := by cases d <;> rfl
/-! slices -/
theorem po_n : oNone env = .ret none := rfl
theorem po_s {i : Int} (h : m env = .ret (eI i)) : oSome m env = .ret (some i) := by unfold oSome; rw [h]; rfl
theorem p_sl {lo hi : DO} {l h : Option Int} {x y : D} {g : D → Option Int → Option Int → M D} (a : m env = .ret x) (b : lo env = .ret l) (c : hi env = .ret h) (k : g x l h = .ret y) : mSl g m lo hi env = .ret y := by
  unfold mSl; rw [a]; show (lo env >>= _) = _; rw [b]; show (hi env >>= _) = _; rw [c]; exact k
theorem r_sl {lo hi : DO} {l h : Option Int} {g : D → Option Int → Option Int → M D} {t : M α} {w : α → β} (a : Ev e (m env) t) (b : lo env = .ret l) (c : hi env = .ret h) (k : ∀ x, g (e x) l h = .ret (f (w x))) : Ev f (mSl g m lo hi env) (t >>= fun x => .ret (w x)) := x_bind a fun x => by
  rw [b]; show Rf _ (hi env >>= _) _; rw [c]; show Rf _ (g (e x) l h) _; rw [k]; exact Rf.ret rfl
theorem r_slD {lo hi : DO} {l h : Option Int} {g : D → Option Int → Option Int → M D} {x : D} (a : m env = .ret x) (b : lo env = .ret l) (c : hi env = .ret h) : Ev eD (mSl g m lo hi env) (g x l h) := by
  unfold mSl; rw [a]; show Ev eD (lo env >>= _) _; rw [b]; show Ev eD (hi env >>= _) _; rw [c]; exact ev_id _
theorem r_slDE {lo hi : DO} {l h : Option Int} {g : D → Option Int → Option Int → M D} {t : M D} (a : Ev eD (m env) t) (b : lo env = .ret l) (c : hi env = .ret h) : Ev eD (mSl g m lo hi env) (t >>= fun x => g x l h) := x_bind a fun x => by
  rw [b]; show Rf _ (hi env >>= _) _; rw [c]; exact ev_id _
theorem p_rev {xs : List α} (a : m env = .ret (eL e xs)) : mRev m env = .ret (eL e xs.reverse) := by
  unfold mRev; rw [a]; show M.ret (D.lst (xs.map e).reverse) = _; rw [← List.map_reverse]; rfl
theorem r_rev {t : M (List α)} (a : Ev (eL e) (m env) t) : Ev (eL e) (mRev m env) (t >>= fun xs => .ret xs.reverse) := x_bind a fun xs => by
  show Rf _ (M.ret (D.lst (xs.map e).reverse)) _; rw [← List.map_reverse]; exact Rf.ret rfl
/-! the place of an item -/
def idxT [DecidableEq α] : List α → α → Option Nat
  | [], _ => none
  | x :: xs, y => if x = y then some 0 else (idxT xs y).map (· + 1)
def indexM [DecidableEq α] (xs : List α) (y : α) : M Int := match idxT xs y with
  | some j => .ret (j : Nat)
  | none => .fail
section
variable [DecidableEq α] {n : Nat}
theorem idx_map (c : Ec n e) (y : α) : ∀ xs : List α, idxD (xs.map e) (e y) = idxT xs y
  | [] => rfl
  | x :: xs => by
    have ih := idx_map c y xs
    unfold idxD at ih ⊢
    rw [List.map_cons, List.findIdx?_cons, c.beq, ih, idxT]
    by_cases h : x = y <;> simp [h]
theorem idx_rf (c : Ec n e) (hn : n ≤ 63) (xs : List α) (y : α) : Ev eI (dIndex (xs.map e) [e y]) (indexM xs y) := by
  show Ev eI (if D.pl 63 (e y) && D.plL 63 (xs.map e) then (match idxD (xs.map e) (e y) with
    | some j => M.ret (D.int (j : Nat))
    | none => .fail) else .fail) _
  unfold indexM
  rw [D.pl_mono _ hn (c.pl y), D.plL_mono _ hn (plL_map c xs), idx_map c]
  show Ev eI (match idxT xs y with | some j => M.ret (D.int (j : Nat)) | none => .fail) _
  cases idxT xs y with
  | none => exact Rf.fail
  | some j => exact Rf.ret rfl
theorem r_index (c : Ec n e) (hn : n ≤ 63) {xs : List α} {y : α} (a : ma env = .ret (eL e xs)) (b : mb env = .ret (e y)) : Ev eI (mMeth dIndex ma (aCons mb aNil) env) (indexM xs y) := by
  unfold mMeth; rw [a]; show Ev eI (aCons mb aNil env >>= fun ds => dIndex (xs.map e) ds) _
  exact a_consP b (a_nil (idx_rf c hn xs y))
theorem r_indexE (c : Ec n e) (hn : n ≤ 63) {xs : List α} {t : M α} (a : ma env = .ret (eL e xs)) (b : Ev e (mb env) t) : Ev eI (mMeth dIndex ma (aCons mb aNil) env) (t >>= fun y => indexM xs y) := by
  unfold mMeth; rw [a]; show Ev eI (aCons mb aNil env >>= fun ds => dIndex (xs.map e) ds) _
  exact a_cons b fun y => a_nil (idx_rf c hn xs y)
end
theorem p_lcA {vs : List Nat} {mi : DI} {gg : DG} {me : DE} {E1 : α → DEnv} {xs : List α} {g : α → β} (ok : vs.all (notOwn env) = true) (hi : mi env = .ret (xs.map e))
    (hg : ∀ x, gg (e x) (wipeE env vs) = .ret (E1 x)) (he : ∀ x, me (E1 x) = .ret (f (g x))) : mLc vs mi gg mYes me env = .ret (eL f (xs.map g)) := by
  rw [p_lc (c := fun _ => true) ok hi hg (fun _ => rfl) he]
  congr 2
  rw [List.filter_eq_self.mpr fun _ _ => rfl]
theorem r_lrg1 {b : Int} (h : m env = .ret (eI b)) : Ev (eL eI) (mRgL1 .lst m env) (rgM 0 b) := by
  unfold mRgL1; rw [h]
  show Ev (eL eI) (if rgOk 0 b then M.ret (.lst (rgD 0 b)) else .fail) _
  unfold rgM
  split
  · rw [rg_map]; exact Rf.ret rfl
  · exact Rf.fail
theorem r_lrg1E {t : M Int} (h : Ev eI (m env) t) : Ev (eL eI) (mRgL1 .lst m env) (t >>= fun b => rgM 0 b) := x_bind h fun b => by
  show Ev (eL eI) (if rgOk 0 b then M.ret (.lst (rgD 0 b)) else .fail) _
  unfold rgM
  split
  · rw [rg_map]; exact Rf.ret rfl
  · exact Rf.fail
/-! numbers -/
def mulM (a b : Int) : M Int := if small64 a || small64 b then .ret (a * b) else .fail
def fdivM (a b : Int) : M Int := if decide (0 < b) && decide (b < 2 ^ 30) then .ret (a / b) else .fail
def modM (a b : Int) : M Int := if decide (0 < b) then .ret (a % b) else .fail
def powM (a b : Int) : M Int := if decide (0 ≤ b) && (decide (b ≤ 1000000) && decide (a.natAbs < 2 ^ 64)) then .ret (a ^ b.toNat) else .fail
def shlM (a b : Int) : M Int := if decide (0 ≤ b) && (decide (b ≤ 1000000) && decide (a.natAbs < 2 ^ 64)) then .ret (a * 2 ^ b.toNat) else .fail
theorem rf_ite {c : Bool} {d : Int} : Ev eI (if c then M.ret (D.int d) else .fail) (if c then .ret d else .fail) := by
  cases c
  · exact Rf.fail
  · exact Rf.ret rfl
theorem r_mul (a b : Int) : Ev eI (dMul (eI a) (eI b)) (mulM a b) := rf_ite
theorem r_fdiv (a b : Int) : Ev eI (dFdiv (eI a) (eI b)) (fdivM a b) := rf_ite
theorem r_mod (a b : Int) : Ev eI (dMod (eI a) (eI b)) (modM a b) := rf_ite
theorem r_pow (a b : Int) : Ev eI (dPow (eI a) (eI b)) (powM a b) := rf_ite
theorem r_shl (a b : Int) : Ev eI (dShl (eI a) (eI b)) (shlM a b) := rf_ite
theorem bls_map : ∀ xs : List Bool, blsOf (xs.map eB) = some xs
  | [] => rfl
  | x :: xs => by rw [List.map_cons]; show (blsOf (xs.map eB)).map (x :: ·) = _; rw [bls_map xs]; rfl
theorem ints_map : ∀ xs : List Int, intsOf (xs.map eI) = some xs
  | [] => rfl
  | x :: xs => by rw [List.map_cons]; show (intsOf (xs.map eI)).map (x :: ·) = _; rw [ints_map xs]; rfl
theorem o_all (xs : List Bool) : dAll [eL eB xs] = .ret (eB (xs.all id)) := by
  show (M.opt (blsOf (xs.map eB)) >>= _) = _; rw [bls_map]; rfl
theorem o_any (xs : List Bool) : dAny [eL eB xs] = .ret (eB (xs.any id)) := by
  show (M.opt (blsOf (xs.map eB)) >>= _) = _; rw [bls_map]; rfl
theorem o_sum (xs : List Int) : dSum [eL eI xs] = .ret (eI xs.sum) := by
  show (M.opt (intsOf (xs.map eI)) >>= _) = _; rw [ints_map]; rfl
/-! orders -/
structure Eo {α : Type} (n : Nat) (lt : α → α → Bool) (e : α → D) : Prop where
  pl : ∀ a, (e a).pl n = true
  alk : ∀ a b, D.alk (e a) (e b) = true
  lt : ∀ a b, D.lt (e a) (e b) = lt a b
  ne : ∀ a, D.tupE (e a) = false
  nn : ∀ a, (match e a with | .non => true | _ => false) = false
def ltI (a b : Int) : Bool := decide (a < b)
def ltS (a b : Str) : Bool := natsLt a.cps.toList b.cps.toList
def ltL [DecidableEq α] (lt : α → α → Bool) : List α → List α → Bool
  | [], [] => false
  | [], _ :: _ => true
  | _ :: _, [] => false
  | x :: xs, y :: ys => if x = y then ltL lt xs ys else lt x y
def ltT2 [DecidableEq α] (l1 : α → α → Bool) (l2 : β → β → Bool) (a b : α × β) : Bool := if a.1 = b.1 then (if l2 a.2 b.2 then true else false) else l1 a.1 b.1
theorem qI : Eo 0 ltI eI := ⟨fun a => by simp [eI, D.pl], fun a b => by simp [eI, D.alk], fun a b => by simp [eI, D.lt, ltI], fun a => rfl, fun a => rfl⟩
theorem qS : Eo 0 ltS eS := ⟨fun a => by simp [eS, D.pl], fun a b => by simp [eS, D.alk], fun a b => by simp [eS, D.lt, ltS], fun a => rfl, fun a => rfl⟩
def insT (lt : α → α → Bool) (x : α) : List α → List α
  | [] => [x]
  | y :: r => if lt y x then y :: insT lt x r else x :: y :: r
def sortT (lt : α → α → Bool) : List α → List α
  | [] => []
  | x :: xs => insT lt x (sortT lt xs)
def sortM (lt : α → α → Bool) (xs : List α) : M (List α) := .ret (sortT lt xs)
theorem ins_map {n : Nat} {lt : α → α → Bool} (q : Eo n lt e) (x : α) : ∀ xs : List α, insD (e x) (xs.map e) = (insT lt x xs).map e
  | [] => rfl
  | y :: r => by
    rw [List.map_cons, insD, insT, q.lt, ins_map q x r]
    split <;> rfl
theorem sort_map {n : Nat} {lt : α → α → Bool} (q : Eo n lt e) : ∀ xs : List α, sortD (xs.map e) = (sortT lt xs).map e
  | [] => rfl
  | x :: xs => by rw [List.map_cons, sortD, sortT, sort_map q xs, ins_map q]
theorem plL_mapO {n : Nat} {lt : α → α → Bool} (q : Eo n lt e) : ∀ xs : List α, D.plL n (xs.map e) = true
  | [] => by simp [D.plL]
  | x :: xs => by simp [D.plL, q.pl x, plL_mapO q xs]
theorem r_sorted {n : Nat} {lt : α → α → Bool} (q : Eo n lt e) (xs : List α) (hn : n ≤ 60 := by decide) : Ev (eL e) (dSorted [eL e xs]) (sortM lt xs) := by
  have h : srtOk (xs.map e) = true := by
    unfold srtOk
    rw [D.plL_mono _ hn (plL_mapO q xs)]
    simp only [Bool.true_and, Bool.and_eq_true, List.all_eq_true, List.mem_map]
    refine ⟨?_, ?_⟩
    · rintro _ ⟨a, _, rfl⟩ _ ⟨b, _, rfl⟩
      exact q.alk a b
    · rintro _ ⟨a, _, rfl⟩
      have h1 := q.ne a
      have h2 := q.nn a
      rw [h1]
      cases hd : e a <;> rw [hd] at h2 <;> first | exact ⟨rfl, rfl⟩ | cases h2
  show Ev (eL e) (if srtOk (xs.map e) then M.ret (.lst (sortD (xs.map e))) else .fail) _
  rw [h, sort_map q]; exact Rf.ret rfl
end
end DL

set_option Elab.async false
set_option linter.all false
set_option maxRecDepth 100000
/-! DL22: trees by type, dicts, two clauses, orders of tuples, draws, loops whose turns do not hang together, by plain functions. -/
namespace DL
open PySem PySem.Spec L2
open PyProof.Rows hiding St
section
variable {α β γ δ ρ σ : Type} {e : α → D} {f : β → D} {g : γ → D} {env : DEnv} {m ma mb mk mv md : DE} {m' : M D}

/-! ### trees by type -/
def asSD : D → M Str
  | .str x => .ret x
  | _ => .fail
def asLD : D → M (List D)
  | .lst xs => .ret xs
  | _ => .fail
theorem map_eD (xs : List D) : xs.map eD = xs := List.map_id xs
theorem q_I (d : D) : Ev eI (.ret d) (asI d) := by cases d <;> first | exact Rf.fail | exact Rf.ret rfl
theorem q_S (d : D) : Ev eS (.ret d) (asSD d) := by cases d <;> first | exact Rf.fail | exact Rf.ret rfl
theorem q_B (d : D) : Ev eB (.ret d) (asB d) := by cases d <;> first | exact Rf.fail | exact Rf.ret rfl
theorem q_L (d : D) : Ev (eL eD) (.ret d) (asLD d) := by
  cases d <;> first | exact Rf.fail | exact Rf.ret (by show D.lst _ = D.lst _; rw [map_eD])
theorem q_P {w : D → M α} (q : ∀ d, Ev e (.ret d) (w d)) {d : D} (h : m' = .ret d) : Ev e m' (w d) := by rw [h]; exact q d
theorem q_O {o : Option α} (h : m' = .ret (eO e o)) : Ev e m' (M.opt o) := by
  rw [h]
  cases o with
  | none => exact Rf.fail
  | some a => exact Rf.ret rfl
theorem q_E {w : D → M α} (q : ∀ d, Ev e (.ret d) (w d)) {t : M D} (h : Ev eD m' t) : Ev e m' (t >>= w) := .of fun P z => h.run P (M.wp_mono (M.wp_bind.mp z) fun d z d' r => by
  have r : d' = d := r
  subst r
  exact (q d').run P z)
theorem ri_id {n : M (List D)} : Rf (fun xs ds => ds = xs.map eD) n n := .of fun P q => M.wp_mono q fun a h => h a (map_eD a).symm
theorem i_D {d : D} (h : m env = .ret d) : Rf (fun xs ds => ds = xs.map eD) (iOver m env) (itemsM d) := by
  unfold iOver; rw [h]; exact ri_id
theorem i_DE {t : M D} (h : Ev eD (m env) t) : Rf (fun xs ds => ds = xs.map eD) (iOver m env) (t >>= itemsM) := x_bind h fun d => ri_id
def enumDM : D → M (List (Int × D))
  | .lst xs => .ret (enumT 0 xs)
  | _ => .fail
theorem enum_mapD (i : Nat) (xs : List D) : enumD i xs = (enumT i xs).map (eT2 eI eD) := by rw [← enum_map, map_eD]
theorem ri_enumD (d : D) : Rf (fun xs ds => ds = xs.map (eT2 eI eD)) (match d with
  | .lst xs => M.ret (enumD 0 xs)
  | _ => .fail) (enumDM d) := by
  cases d <;> first | exact Rf.fail | exact Rf.ret (enum_mapD _ _)
theorem i_enumD {d : D} (h : m env = .ret d) : Rf (fun xs ds => ds = xs.map (eT2 eI eD)) (iEnumD m env) (enumDM d) := by
  unfold iEnumD; rw [h]; exact ri_enumD d
theorem i_enumDE {t : M D} (h : Ev eD (m env) t) : Rf (fun xs ds => ds = xs.map (eT2 eI eD)) (iEnumD m env) (t >>= enumDM) := x_bind h fun d => ri_enumD d
def revDM : D → M D
  | .lst xs => .ret (.lst xs.reverse)
  | _ => .fail
theorem ri_revD (d : D) : Ev eD (match d with
  | .lst xs => M.ret (D.lst xs.reverse)
  | _ => .fail) (revDM d) := by
  cases d <;> first | exact Rf.fail | exact Rf.ret rfl
theorem r_revD {d : D} (h : m env = .ret d) : Ev eD (mRev m env) (revDM d) := by
  unfold mRev; rw [h]; exact ri_revD d
theorem r_revDE {t : M D} (h : Ev eD (m env) t) : Ev eD (mRev m env) (t >>= revDM) := x_bind h fun d => ri_revD d
theorem p_lstE {ms : DA} {xs : List α} (a : ms env = .ret (xs.map e)) (h : xs.length ≤ sizeLine) : mLst ms env = .ret (eL e xs) := p_lst a (by rw [List.length_map]; exact h)
theorem p_tupE {ms : DA} {xs : List α} (a : ms env = .ret (xs.map e)) (h : xs.length ≤ sizeLine) : mTup ms env = .ret (eV e xs) := p_tup a (by rw [List.length_map]; exact h)
theorem k_par {R : β → Fl × DEnv → Prop} {i j : Nat} {rest : DS} {d d' : D} {t : M β} (h : Rf R (rest ((env.set i (some (.val d))).set j (some (.val d')))) t) : Rf R (parK i j rest env [d, d']) t := h
/-! ### in -/
def memT [DecidableEq α] (a : α) : List α → Bool
  | [] => false
  | x :: xs => if a = x then true else memT a xs
theorem memT_eq [DecidableEq α] (a : α) : ∀ xs : List α, memT a xs = decide (a ∈ xs)
  | [] => by simp [memT]
  | x :: xs => by
    rw [memT, memT_eq a xs]
    by_cases h : a = x <;> simp [h]
theorem o_minL [DecidableEq α] {n : Nat} (c : Ec n e) (hn : n ≤ 63 := by decide) (a : α) (xs : List α) : dInX (e a) (eL e xs) = .ret (eB (memT a xs)) := by rw [o_inL c hn, memT_eq]
theorem o_minV [DecidableEq α] {n : Nat} (c : Ec n e) (hn : n ≤ 63 := by decide) (a : α) (xs : List α) : dInX (e a) (eV e xs) = .ret (eB (memT a xs)) := by rw [o_inV c hn, memT_eq]
theorem o_mnotInL [DecidableEq α] {n : Nat} (c : Ec n e) (hn : n ≤ 63 := by decide) (a : α) (xs : List α) : dNotInX (e a) (eL e xs) = .ret (eB (!memT a xs)) := by rw [o_notInL c hn, memT_eq]
theorem o_mnotInV [DecidableEq α] {n : Nat} (c : Ec n e) (hn : n ≤ 63 := by decide) (a : α) (xs : List α) : dNotInX (e a) (eV e xs) = .ret (eB (!memT a xs)) := by rw [o_notInV c hn, memT_eq]
/-! ### None or a value -/
theorem beq_non {d : D} (h : d ≠ .non) : D.beq d .non = false := by cases d <;> first | exact absurd rfl h | simp [D.beq]
theorem non_beq {d : D} (h : d ≠ .non) : D.beq .non d = false := by cases d <;> first | exact absurd rfl h | simp [D.beq]
theorem cO [DecidableEq α] {n : Nat} (c : Ec n e) (nn : ∀ a, e a ≠ .non) : Ec n (eO e) where
  pl := fun o => by
    cases o with
    | none => simp [eO, D.pl]
    | some a => exact c.pl a
  beq := fun o p => by
    cases o with
    | none =>
      cases p with
      | none => simp [eO, D.beq]
      | some b => show D.beq .non (e b) = _; rw [non_beq (nn b)]; simp
    | some a =>
      cases p with
      | none => show D.beq (e a) .non = _; rw [beq_non (nn a)]; simp
      | some b => show D.beq (e a) (e b) = _; rw [c.beq]; simp
/-! ### dicts -/
def eKp (e : α → D) (f : β → D) : α × β → D × D := fun p => (e p.1, f p.2)
def eK (e : α → D) (f : β → D) : List (α × β) → D := fun xs => .dct false (xs.map (eKp e f))
def putT [DecidableEq α] (xs : List (α × β)) (k : α) (v : β) : List (α × β) := if xs.any (fun p => decide (p.1 = k)) then xs.map (fun p => if p.1 = k then (p.1, v) else p) else xs ++ [(k, v)]
def valT [DecidableEq α] : List (α × β) → α → Option β
  | [], _ => none
  | p :: xs, k => if p.1 = k then some p.2 else valT xs k
def getM [DecidableEq α] (xs : List (α × β)) (k : α) : M β := M.opt (valT xs k)
def starM [DecidableEq α] (xs : List (α × β)) (k : α) (v : β) : M (List (α × β)) := if xs.length < sizeLine then .ret (putT xs k v) else .fail
def dictT [DecidableEq α] (xs : List (α × β)) : List (α × β) := xs.foldl (fun acc p => putT acc p.1 p.2) []
structure Ek [DecidableEq α] (e : α → D) : Prop where
  key : ∀ a, (e a).isKey = true
  beq : ∀ a b, D.beq (e a) (e b) = decide (a = b)
theorem kI : Ek eI := ⟨fun _ => rfl, fun a b => cI.beq a b⟩
theorem kS : Ek eS := ⟨fun _ => rfl, fun a b => cS.beq a b⟩
section
variable [DecidableEq α]
theorem val_map (c : Ek e) (k : α) : ∀ xs : List (α × β), valD (xs.map (eKp e f)) (e k) = (valT xs k).map f
  | [] => rfl
  | p :: xs => by
    have ih := val_map c k xs
    unfold valD at ih ⊢
    have hb : D.beq (eKp e f p).1 (e k) = decide (p.1 = k) := c.beq p.1 k
    rw [List.map_cons, List.find?_cons, valT]
    by_cases h : p.1 = k
    · simp only [hb, h, decide_true, if_true]; rfl
    · simp only [hb, h, decide_false, if_false]; exact ih
theorem put_map (c : Ek e) (k : α) (v : β) (xs : List (α × β)) : putD (xs.map (eKp e f)) (e k) (f v) = (putT xs k v).map (eKp e f) := by
  unfold putD putT
  have h1 : (xs.map (eKp e f)).any (fun p => D.beq p.1 (e k)) = xs.any fun p => decide (p.1 = k) := by
    rw [List.any_map]
    congr 1; funext p
    exact c.beq p.1 k
  rw [h1]
  split
  · rw [List.map_map, List.map_map]
    congr 1; funext p
    show (if D.beq (e p.1) (e k) then _ else _) = eKp e f (if p.1 = k then _ else _)
    rw [c.beq]
    by_cases h : p.1 = k
    · rw [if_pos h, decide_eq_true h]; rfl
    · rw [if_neg h, decide_eq_false h]; rfl
  · rw [List.map_append]; rfl
theorem r_ixK (c : Ek e) (xs : List (α × β)) (k : α) : Ev f (dIx (eK e f xs) (e k)) (getM xs k) := by
  have h := c.key k
  have q : dIx (eK e f xs) (e k) = M.opt (valD (xs.map (eKp e f)) (e k)) := by
    show (if keyOk false (e k) then M.opt (valD (xs.map (eKp e f)) (e k)) else .fail) = _
    rw [show keyOk false (e k) = true from h]; rfl
  rw [q, val_map c]
  unfold getM
  cases valT xs k with
  | none => exact Rf.fail
  | some a => exact Rf.ret rfl
theorem r_star (c : Ek e) {xs : List (α × β)} {k : α} {v : β} (h1 : md env = .ret (eK e f xs)) (h2 : mk env = .ret (e k)) (h3 : mv env = .ret (f v)) : Ev (eK e f) (mStar md mk mv env) (starM xs k v) := by
  unfold mStar
  rw [h1]
  show Ev _ (if (xs.map (eKp e f)).length < sizeLine then mk env >>= fun k => if k.isKey then mv env >>= fun v => .ret (.dct false (putD (xs.map (eKp e f)) k v)) else .fail else .fail) _
  rw [List.length_map]
  unfold starM
  split
  · rw [h2]
    show Ev _ (if (e k).isKey then mv env >>= fun v => .ret (.dct false (putD (xs.map (eKp e f)) (e k) v)) else .fail) _
    rw [c.key, h3]
    show Ev _ (.ret (.dct false (putD (xs.map (eKp e f)) (e k) (f v)))) _
    rw [put_map c]
    exact Rf.ret rfl
  · exact Rf.fail
theorem pairs_map (c : Ek e) : ∀ xs : List (α × β), pairsD (xs.map (eT2 e f)) = some (xs.map (eKp e f))
  | [] => rfl
  | p :: xs => by
    show (if (e p.1).isKey then (pairsD (xs.map (eT2 e f))).map ((e p.1, f p.2) :: ·) else none) = _
    rw [c.key, pairs_map c xs]; rfl
theorem merge_map (c : Ek e) : ∀ (ys xs : List (α × β)), mergeD (xs.map (eKp e f)) (ys.map (eKp e f)) = (ys.foldl (fun acc p => putT acc p.1 p.2) xs).map (eKp e f)
  | [], xs => rfl
  | y :: ys, xs => by
    show mergeD (putD (xs.map (eKp e f)) (e y.1) (f y.2)) (ys.map (eKp e f)) = _
    rw [put_map c, merge_map c ys]; rfl
theorem o_dict (c : Ek e) (xs : List (α × β)) : dDict [eL (eT2 e f) xs] = .ret (eK e f (dictT xs)) := by
  show (match pairsD (xs.map (eT2 e f)) with
    | some ps => M.ret (D.dct false (mergeD [] ps))
    | none => .fail) = _
  rw [pairs_map c]
  show M.ret (D.dct false (mergeD ([].map (eKp e f)) (xs.map (eKp e f)))) = _
  rw [merge_map c]; rfl
end
theorem p_newK : mNewK env = .ret (eK e f []) := rfl
/-! ### comprehensions of two clauses -/
def lc2I (c : β → M Bool) (h : β → M γ) : List β → List γ → M (List γ)
  | [], acc => .ret acc
  | y :: ys, acc => c y >>= fun k => if k then h y >>= fun z => if acc.length < sizeLine then lc2I c h ys (acc ++ [z]) else .fail else lc2I c h ys acc
def lc2L (c1 : α → M Bool) (it : α → M (List β)) (c2 : α → β → M Bool) (h : α → β → M γ) : List α → List γ → M (List γ)
  | [], acc => .ret acc
  | x :: xs, acc => c1 x >>= fun k => if k then it x >>= fun ys => lc2I (c2 x) (h x) ys acc >>= fun acc' => lc2L c1 it c2 h xs acc' else lc2L c1 it c2 h xs acc
theorem rf_lc2I {vs1 : List Nat} {g1 : DG} {mt1 : DT} {me : DE} {env1 : DEnv} {E2 : β → DEnv} {c : β → M Bool} {h : β → M γ} (hg : ∀ y, g1 (f y) (wipeE env1 vs1) = .ret (E2 y)) (ht : ∀ y, EvT (mt1 (E2 y)) (c y)) (he : ∀ y, Ev g (me (E2 y)) (h y)) :
    ∀ (ys : List β) (acc : List γ), Rf (fun (zs : List γ) ds => ds = zs.map g) (mLc2I vs1 g1 mt1 me env1 (ys.map f) (acc.map g)) (lc2I c h ys acc)
  | [], acc => Rf.ret rfl
  | y :: ys, acc => by
    show Rf _ (g1 (f y) (wipeE env1 vs1) >>= fun env2 => mt1 env2 >>= _) (c y >>= _)
    rw [hg]
    refine x_test (ht y) fun k => ?_
    cases k with
    | true =>
      refine x_bind (he y) fun z => ?_
      show Rf _ (if (acc.map g).length < sizeLine then mLc2I vs1 g1 mt1 me env1 (ys.map f) (acc.map g ++ [g z]) else .fail) (if acc.length < sizeLine then _ else _)
      rw [List.length_map]
      split
      · have ih := rf_lc2I hg ht he ys (acc ++ [z])
        rw [List.map_append] at ih
        exact ih
      · exact Rf.fail
    | false => exact rf_lc2I hg ht he ys acc
theorem rf_lc2L {vs vs1 : List Nat} {gg g1 : DG} {mt mt1 : DT} {mi1 : DI} {me : DE} {envw : DEnv} {E1 : α → DEnv} {E2 : α → β → DEnv} {c1 : α → M Bool} {it : α → M (List β)} {c2 : α → β → M Bool} {h : α → β → M γ}
    (hg : ∀ x, gg (e x) envw = .ret (E1 x)) (ht : ∀ x, EvT (mt (E1 x)) (c1 x)) (ok : ∀ x, vs.all (notOwn (E1 x)) = true) (hi : ∀ x, Rf (fun ys ds => ds = ys.map f) (mi1 (E1 x)) (it x))
    (hg1 : ∀ x y, g1 (f y) (wipeE (E1 x) vs1) = .ret (E2 x y)) (ht1 : ∀ x y, EvT (mt1 (E2 x y)) (c2 x y)) (he : ∀ x y, Ev g (me (E2 x y)) (h x y)) :
    ∀ (xs : List α) (acc : List γ), Rf (fun (zs : List γ) ds => ds = zs.map g) (mLc2L vs vs1 gg mt mi1 g1 mt1 me envw (xs.map e) (acc.map g)) (lc2L c1 it c2 h xs acc)
  | [], acc => Rf.ret rfl
  | x :: xs, acc => by
    show Rf _ (gg (e x) envw >>= fun env1 => mt env1 >>= _) (c1 x >>= _)
    rw [hg]
    refine x_test (ht x) fun k => ?_
    cases k with
    | true =>
      show Rf _ (if vs.all (notOwn (E1 x)) then mi1 (E1 x) >>= fun es => mLc2I vs1 g1 mt1 me (E1 x) es (acc.map g) >>= fun acc' => mLc2L vs vs1 gg mt mi1 g1 mt1 me envw (xs.map e) acc' else .fail) _
      rw [ok]
      refine (hi x).bind fun ys ds hd => ?_
      subst hd
      refine (rf_lc2I (hg1 x) (ht1 x) (he x) ys acc).bind fun zs ds hd => ?_
      subst hd
      exact rf_lc2L hg ht ok hi hg1 ht1 he xs zs
    | false => exact rf_lc2L hg ht ok hi hg1 ht1 he xs acc
theorem r_lc2E {vs vs1 : List Nat} {mi mi1 : DI} {gg g1 : DG} {mt mt1 : DT} {me : DE} {E1 : α → DEnv} {E2 : α → β → DEnv} {tx : M (List α)} {c1 : α → M Bool} {it : α → M (List β)} {c2 : α → β → M Bool} {h : α → β → M γ}
    (ok0 : vs.all (notOwn env) = true) (hi0 : Rf (fun xs ds => ds = xs.map e) (mi env) tx)
    (hg : ∀ x, gg (e x) (wipeE env vs) = .ret (E1 x)) (ht : ∀ x, EvT (mt (E1 x)) (c1 x)) (ok : ∀ x, vs.all (notOwn (E1 x)) = true) (hi : ∀ x, Rf (fun ys ds => ds = ys.map f) (mi1 (E1 x)) (it x))
    (hg1 : ∀ x y, g1 (f y) (wipeE (E1 x) vs1) = .ret (E2 x y)) (ht1 : ∀ x y, EvT (mt1 (E2 x y)) (c2 x y)) (he : ∀ x y, Ev g (me (E2 x y)) (h x y)) :
    Ev (eL g) (mLc2 vs vs1 mi gg mt mi1 g1 mt1 me env) (tx >>= fun xs => lc2L c1 it c2 h xs []) := by
  unfold mLc2
  rw [if_pos ok0]
  refine hi0.bind fun xs ds hd => ?_
  subst hd
  refine .of fun P q => ?_
  exact M.wp_bind.mpr ((rf_lc2L (f := f) hg ht ok hi hg1 ht1 he xs []).run _ (M.wp_mono q fun zs q d hd => q _ (by rw [hd]; rfl)))
/-! ### orders of tuples -/
theorem ltL_map [DecidableEq α] {n k : Nat} {lt : α → α → Bool} (c : Ec n e) (q : Eo k lt e) : ∀ xs ys : List α, D.ltL (xs.map e) (ys.map e) = ltL lt xs ys
  | [], [] => by simp [D.ltL, ltL]
  | [], y :: ys => by simp [D.ltL, ltL]
  | x :: xs, [] => by simp [D.ltL, ltL]
  | x :: xs, y :: ys => by
    rw [List.map_cons, List.map_cons, D.ltL, ltL, c.beq, ltL_map c q xs ys, q.lt]
    by_cases h : x = y <;> simp [h]
theorem alkL_map {n : Nat} {lt : α → α → Bool} (q : Eo n lt e) : ∀ xs ys : List α, D.alkL (xs.map e) (ys.map e) = true
  | [], _ => by simp [D.alkL]
  | x :: xs, [] => by simp [D.alkL]
  | x :: xs, y :: ys => by rw [List.map_cons, List.map_cons, D.alkL, q.alk, alkL_map q xs ys]; rfl
def ltP2 [DecidableEq α] [DecidableEq β] (l1 : α → α → Bool) (l2 : β → β → Bool) (a b : α × β) : Bool := if a.1 = b.1 then (if a.2 = b.2 then false else l2 a.2 b.2) else l1 a.1 b.1
theorem qT2 [DecidableEq α] [DecidableEq β] {n m k j : Nat} {l1 : α → α → Bool} {l2 : β → β → Bool} (c1 : Ec k e) (q1 : Eo n l1 e) (c2 : Ec j f) (q2 : Eo m l2 f) : Eo (max n m + 1) (ltP2 l1 l2) (eT2 e f) where
  pl := fun a => by simp only [eT2, D.pl, D.plL, D.pl_mono _ (Nat.le_max_left n m) (q1.pl a.1), D.pl_mono _ (Nat.le_max_right n m) (q2.pl a.2)]; rfl
  alk := fun a b => by simp [eT2, D.alk, D.alkL, q1.alk, q2.alk]
  lt := fun a b => by
    simp only [eT2, D.lt, D.ltL, c1.beq, c2.beq, q1.lt, q2.lt, ltP2]
    by_cases h : a.1 = b.1
    · by_cases h2 : a.2 = b.2 <;> simp [h, h2]
    · simp [h]
  ne := fun a => rfl
  nn := fun a => rfl
theorem qL [DecidableEq α] {n k : Nat} {lt : α → α → Bool} (c : Ec k e) (q : Eo n lt e) : Eo (n + 1) (ltL lt) (eL e) where
  pl := fun a => by simp only [eL, D.pl]; exact plL_mapO q a
  alk := fun a b => by simp only [eL, D.alk]; exact alkL_map q a b
  lt := fun a b => by simp only [eL, D.lt]; exact ltL_map c q a b
  ne := fun a => rfl
  nn := fun a => rfl
/-- tuples of any length: none of them empty -/
def sortVM (lt : α → α → Bool) (xs : List (List α)) [DecidableEq α] : M (List (List α)) := if xs.any List.isEmpty then .fail else .ret (sortT (ltL lt) xs)
theorem ins_mapV [DecidableEq α] {n k : Nat} {lt : α → α → Bool} (c : Ec k e) (q : Eo n lt e) (x : List α) : ∀ xs : List (List α), insD (eV e x) (xs.map (eV e)) = (insT (ltL lt) x xs).map (eV e)
  | [] => rfl
  | y :: r => by
    have h : D.lt (eV e y) (eV e x) = ltL lt y x := by simp only [eV, D.lt]; exact ltL_map c q y x
    rw [List.map_cons, insD, insT, h, ins_mapV c q x r]
    split <;> rfl
theorem sort_mapV [DecidableEq α] {n k : Nat} {lt : α → α → Bool} (c : Ec k e) (q : Eo n lt e) : ∀ xs : List (List α), sortD (xs.map (eV e)) = (sortT (ltL lt) xs).map (eV e)
  | [] => rfl
  | x :: xs => by rw [List.map_cons, sortD, sortT, sort_mapV c q xs, ins_mapV c q]
theorem r_sortedV [DecidableEq α] {n k : Nat} {lt : α → α → Bool} (c : Ec k e) (q : Eo n lt e) (xs : List (List α)) (hn : n + 1 ≤ 60 := by decide) : Ev (eL (eV e)) (dSorted [eL (eV e) xs]) (sortVM lt xs) := by
  unfold sortVM
  split
  · exact Rf.fail
  · rename_i hx
    have hp : ∀ a : List α, (eV e a).pl (n + 1) = true := fun a => by simp only [eV, D.pl]; exact plL_mapO q a
    have hpl : ∀ ys : List (List α), D.plL (n + 1) (ys.map (eV e)) = true := by
      intro ys
      induction ys with
      | nil => simp [D.plL]
      | cons y ys ih => rw [List.map_cons, D.plL, hp, ih]; rfl
    have h : srtOk (xs.map (eV e)) = true := by
      unfold srtOk
      rw [D.plL_mono _ hn (hpl xs)]
      simp only [Bool.true_and, Bool.and_eq_true, List.all_eq_true, List.mem_map]
      refine ⟨?_, ?_⟩
      · rintro _ ⟨a, _, rfl⟩ _ ⟨b, _, rfl⟩
        simp only [eV, D.alk]; exact alkL_map q a b
      · rintro _ ⟨a, ha, rfl⟩
        refine ⟨?_, rfl⟩
        cases a with
        | nil => exact absurd (List.any_eq_true.mpr ⟨[], ha, rfl⟩) hx
        | cons y ys => rfl
    show Ev _ (if srtOk (xs.map (eV e)) then M.ret (.lst (sortD (xs.map (eV e)))) else .fail) _
    rw [h, sort_mapV c q]; exact Rf.ret rfl
/-! ### draws -/
def askM (k : Int) : M Int := .ask k .ret
theorem r_take (k : Int) : Ev eI (takeM [eD .stt, eI k]) (askM k) := Rf.ask fun i => Rf.ret rfl
/-! ### loops whose turns do not hang together: one turn -/
def onceE {ρ : Type} : Fw Unit ρ → M (Fw Unit ρ)
  | .go s => .ret (.go s)
  | .brk s => .ret (.go s)
  | .back r => .ret (.back r)
def onceR {ρ : Type} (f : Unit → M (Fw Unit ρ)) : List α → Unit → M (Fw Unit ρ)
  | [], _ => .ret (.go ())
  | _ :: _, _ => f () >>= onceE
theorem rf_onceR {gg : DG} {mb : DS} {E : Unit → DEnv} {E1 : α → Unit → DEnv} {eρ : ρ → D} {f : Unit → M (Fw Unit ρ)} (hg : ∀ x s, gg (e x) (E s) = .ret (E1 x s)) (hb : ∀ x s, Rf (RTn E eρ) (mb (E1 x s)) (f s)) : ∀ (xs : List α) (s : Unit), Rf (RLp E eρ) (mForL gg mb (xs.map e) (E s)) (onceR f xs s)
  | [], s => Rf.ret rfl
  | [x], s => by
    show Rf _ (gg (e x) (E s) >>= fun env1 => mb env1 >>= _) (f () >>= _)
    rw [hg]
    refine (hb x s).bind fun o p r => ?_
    cases o with
    | go s' => rcases r with r | r <;> subst r <;> exact Rf.ret rfl
    | brk s' =>
      have r : p = (.bk, E s') := r
      subst r; exact Rf.ret rfl
    | back r' =>
      obtain ⟨fl, env2⟩ := p
      have r1 : fl = .rt (eρ r') := r
      subst r1; exact Rf.ret rfl
  | x :: y :: ys, s => by
    refine .of fun P q => ?_
    have ih := (rf_onceR hg hb (y :: ys) s).run P q
    have q1 := M.wp_bind.mp q
    show (gg (e x) (E s) >>= fun env1 => mb env1 >>= _).wp P
    rw [hg]
    show (mb (E1 x s) >>= _).wp P
    refine M.wp_bind.mpr ((hb x s).run _ (M.wp_mono q1 fun o qo p r => ?_))
    cases o with
    | go s' => rcases r with r | r <;> subst r <;> exact ih
    | brk s' =>
      have r : p = (.bk, E s') := r
      subst r; exact qo _ rfl
    | back r' =>
      obtain ⟨fl, env2⟩ := p
      have r1 : fl = .rt (eρ r') := r
      subst r1; exact qo _ rfl
end
end DL

set_option Elab.async false
set_option linter.all false
set_option maxRecDepth 100000
/-! DL23: runs of plain functions: values, loops whose turns all go on. -/
namespace DL
open PySem PySem.Spec L2
open PyProof.Rows hiding St
def M.val {α : Type} : M α → Option α
  | .ret a => some a
  | _ => none
theorem M.val_eq {α : Type} {m : M α} {a : α} (h : m.val = some a) : m = .ret a := by
  cases m with
  | ret b => cases h; rfl
  | fail => cases h
  | ask k f => cases h
theorem M.val_bind {α β : Type} {m : M α} {g : α → M β} {b : β} (h : (m >>= g).val = some b) : ∃ a, m = .ret a ∧ g a = .ret b := by
  cases m with
  | ret a => exact ⟨a, rfl, M.val_eq h⟩
  | fail => cases h
  | ask k f => cases h
theorem loopR_go {α σ ρ : Type} {f : α → σ → M (Fw σ ρ)} {st : α → σ → σ} : ∀ (xs : List α) (s : σ), (∀ x ∈ xs, ∀ s, f x s = .ret (.go (st x s))) → loopR f xs s = .ret (.go (xs.foldl (fun s x => st x s) s))
  | [], s, h => rfl
  | x :: xs, s, h => by
    show (f x s >>= _) = _
    rw [h x List.mem_cons_self s]
    exact loopR_go xs (st x s) fun y hy => h y (List.mem_cons_of_mem _ hy)
/-- two things that hold so far -/
theorem fold_and {α : Type} (p q : α → Bool) : ∀ (xs : List α) (a b : Bool), xs.foldl (fun s x => (s.1 && p x, s.2 && q x)) (a, b) = (a && xs.all p, b && xs.all q)
  | [], a, b => by simp
  | x :: xs, a, b => by
    rw [List.foldl_cons, fold_and p q xs]
    simp [Bool.and_assoc]
theorem rgT_mem {a b x : Int} (h : x ∈ rgT a b) : a ≤ x ∧ x < b := by
  unfold rgT at h
  obtain ⟨i, hi, rfl⟩ := List.mem_map.mp h
  rw [List.mem_range] at hi
  omega
theorem rgT_all (n : Nat) (p : Int → Bool) : (rgT 0 n).all p = (List.range n).all fun i => p (i : Nat) := by
  unfold rgT
  rw [List.all_map]
  have : ((n : Int) - 0).toNat = n := by omega
  rw [this]
  congr 1
  funext i
  show p (0 + (i : Nat)) = _
  rw [Int.zero_add]
end DL

set_option Elab.async false
set_option linter.all false
set_option maxRecDepth 100000
/-! DL24: dicts with nested keys, signs of texts, None or not in lists, by plain functions. -/
namespace DL
open PySem PySem.Spec L2
open PyProof.Rows hiding St
section
variable {α β γ δ ρ σ : Type} {e : α → D} {f : β → D} {g : γ → D} {env : DEnv} {m ma mb mk mv mx md : DE} {m' : M D} {n : Nat}
theorem nnT3 (a : α × β × γ) : eT3 e f g a ≠ .non := fun h => D.noConfusion (show D.tup _ = D.non from h)
theorem nnB (a : Bool) : eB a ≠ .non := fun h => D.noConfusion (show D.bl _ = D.non from h)
/-! ### keys -/
def Nk (n : Nat) (e : α → D) : Prop := ∀ a, ∃ k, D.nk (e a) = some k ∧ k.depth ≤ n
theorem nkI : Nk 0 eI := fun a => ⟨_, rfl, Nat.le_refl _⟩
theorem nkS : Nk 0 eS := fun a => ⟨_, rfl, Nat.le_refl _⟩
theorem nkN : Nk 0 eN := fun a => ⟨_, rfl, Nat.le_refl _⟩
theorem nkT2 {k : Nat} (a : Nk n e) (b : Nk k f) : Nk (max n k + 1) (eT2 e f) := fun p => by
  obtain ⟨k1, e1, h1⟩ := a p.1
  obtain ⟨k2, e2, h2⟩ := b p.2
  refine ⟨.tup [k1, k2], by simp [eT2, D.nk, D.nkL, e1, e2], ?_⟩
  simp only [NestedKey.depth, NestedKey.depthAll]
  omega
theorem nkL_map (a : Nk n e) : ∀ xs : List α, ∃ ks, D.nkL (xs.map e) = some ks ∧ NestedKey.depthAll ks ≤ n
  | [] => ⟨[], by simp [D.nkL], by simp [NestedKey.depthAll]⟩
  | x :: xs => by
    obtain ⟨k, e1, h1⟩ := a x
    obtain ⟨ks, e2, h2⟩ := nkL_map a xs
    exact ⟨k :: ks, by rw [List.map_cons, D.nkL, e1, e2], by simp only [NestedKey.depthAll]; omega⟩
theorem nkV (a : Nk n e) : Nk (n + 1) (eV e) := fun xs => by
  obtain ⟨ks, e2, h2⟩ := nkL_map a xs
  exact ⟨.tup ks, by show (D.nkL (xs.map e)).map NestedKey.tup = _; rw [e2]; rfl, by simp only [NestedKey.depth]; omega⟩
structure Ekn [DecidableEq α] (e : α → D) : Prop where
  key : ∀ a, keyOkN (e a) = true
  beq : ∀ a b, D.beq (e a) (e b) = decide (a = b)
theorem keyOkN_tup {xs : List D} {k : NestedKey} (h : D.nk (.tup xs) = some k) (h8 : k.depth ≤ 8) : keyOkN (.tup xs) = true := by simp only [keyOkN, h]; exact decide_eq_true h8
theorem knV [DecidableEq α] {k : Nat} (c : Ec k e) (a : Nk n e) (hn : n + 1 ≤ 8 := by decide) : Ekn (eV e) := ⟨fun xs => by
  obtain ⟨k, h1, h2⟩ := nkV a xs
  exact keyOkN_tup h1 (by omega), fun a b => (cV c).beq a b⟩
def eM (e : α → D) (f : β → D) : List (α × β) → D := fun xs => .dcn (xs.map (eKp e f))
section
variable [DecidableEq α]
theorem val_mapN (c : Ekn e) (k : α) : ∀ xs : List (α × β), valD (xs.map (eKp e f)) (e k) = (valT xs k).map f
  | [] => rfl
  | p :: xs => by
    have ih := val_mapN c k xs
    unfold valD at ih ⊢
    have hb : D.beq (eKp e f p).1 (e k) = decide (p.1 = k) := c.beq p.1 k
    rw [List.map_cons, List.find?_cons, valT]
    by_cases h : p.1 = k
    · simp only [hb, h, decide_true, if_true]; rfl
    · simp only [hb, h, decide_false, if_false]; exact ih
theorem put_mapN (c : Ekn e) (k : α) (v : β) (xs : List (α × β)) : putD (xs.map (eKp e f)) (e k) (f v) = (putT xs k v).map (eKp e f) := by
  unfold putD putT
  have h1 : (xs.map (eKp e f)).any (fun p => D.beq p.1 (e k)) = xs.any fun p => decide (p.1 = k) := by
    rw [List.any_map]
    congr 1; funext p
    exact c.beq p.1 k
  rw [h1]
  split
  · rw [List.map_map, List.map_map]
    congr 1; funext p
    show (if D.beq (e p.1) (e k) then _ else _) = eKp e f (if p.1 = k then _ else _)
    rw [c.beq]
    by_cases h : p.1 = k
    · rw [if_pos h, decide_eq_true h]; rfl
    · rw [if_neg h, decide_eq_false h]; rfl
  · rw [List.map_append]; rfl
theorem r_ixN (c : Ekn e) (xs : List (α × β)) (k : α) : Ev f (dIxN (eM e f xs) (e k)) (getM xs k) := by
  have q : dIxN (eM e f xs) (e k) = M.opt (valD (xs.map (eKp e f)) (e k)) := by
    show (if keyOkN (e k) then M.opt (valD (xs.map (eKp e f)) (e k)) else .fail) = _
    rw [c.key]; rfl
  rw [q, val_mapN c]
  unfold getM
  cases valT xs k with
  | none => exact Rf.fail
  | some a => exact Rf.ret rfl
def getDT (xs : List (α × β)) (k : α) (x : β) : β := (valT xs k).getD x
theorem p_getN (c : Ekn e) {xs : List (α × β)} {k : α} {x : β} (h1 : m env = .ret (eM e f xs)) (h2 : mk env = .ret (e k)) (h3 : mx env = .ret (f x)) : mGetN m mk mx env = .ret (f (getDT xs k x)) := by
  unfold mGetN
  rw [h1]
  show (mk env >>= fun k => mx env >>= fun x => if keyOkN k then M.ret ((valD (xs.map (eKp e f)) k).getD x) else .fail) = _
  rw [h2]
  show (mx env >>= fun x => if keyOkN (e k) then M.ret ((valD (xs.map (eKp e f)) (e k)).getD x) else .fail) = _
  rw [h3]
  show (if keyOkN (e k) then M.ret ((valD (xs.map (eKp e f)) (e k)).getD (f x)) else .fail) = _
  rw [c.key, val_mapN c]
  unfold getDT
  cases valT xs k <;> rfl
def putM (xs : List (α × β)) (k : α) (v : β) : M (List (α × β)) := if xs.length < sizeLine then .ret (putT xs k v) else .fail
theorem s_putNP {R : ρ → Fl × DEnv → Prop} {i : Nat} {rest : DS} (c : Ekn e) {xs : List (α × β)} {k : α} {v : β} {t : List (α × β) → M ρ} (h1 : mv env = .ret (f v)) (h2 : mk env = .ret (e k)) (hx : env[i]? = some (some (.own (eM e f xs)))) (q : ∀ ys, Rf R (rest (env.set i (some (.own (eM e f ys))))) (t ys)) :
    Rf R (mSeq (mPutN i mk mv) rest env) (putM xs k v >>= t) := by
  unfold mSeq mPutN
  rw [h1]
  show Rf R ((mk env >>= fun k => match env[i]? with
    | some (some (.own (.dcn kvs))) => if keyOkN k && decide (kvs.length < sizeLine) then M.ret (Fl.nx, env.set i (some (.own (.dcn (putD kvs k (f v)))))) else .fail
    | _ => .fail) >>= _) _
  rw [h2]
  show Rf R ((match env[i]? with
    | some (some (.own (.dcn kvs))) => if keyOkN (e k) && decide (kvs.length < sizeLine) then M.ret (Fl.nx, env.set i (some (.own (.dcn (putD kvs (e k) (f v)))))) else .fail
    | _ => .fail) >>= _) _
  rw [hx]
  show Rf R ((if keyOkN (e k) && decide ((xs.map (eKp e f)).length < sizeLine) then M.ret (Fl.nx, env.set i (some (.own (.dcn (putD (xs.map (eKp e f)) (e k) (f v)))))) else .fail) >>= _) _
  rw [c.key, List.length_map, put_mapN c]
  unfold putM
  by_cases z : xs.length < sizeLine
  · rw [if_pos z, decide_eq_true z]; exact q _
  · rw [if_neg z, decide_eq_false z]; exact Rf.fail
end
theorem p_newN : mNewN env = .ret (eM e f []) := rfl
theorem keys_map (xs : List (α × β)) : (xs.map (eKp e f)).map (·.1) = (xs.map (·.1)).map e := by rw [List.map_map, List.map_map]; rfl
def keysT (xs : List (α × β)) : List α := xs.map (·.1)
theorem r_sortedNV [DecidableEq α] {k : Nat} {lt : α → α → Bool} (c : Ec k e) (q : Eo n lt e) (xs : List (List α × β)) (hn : n + 1 ≤ 60 := by decide) : Ev (eL (eV e)) (dSortedN [eM (eV e) f xs]) (sortVM lt (keysT xs)) := by
  have h := r_sortedV c q (keysT xs) hn
  have e1 : dSortedN [eM (eV e) f xs] = dSorted [eL (eV e) (keysT xs)] := by
    show (if srtOk ((xs.map (eKp (eV e) f)).map (·.1)) then M.ret (D.lst (sortD ((xs.map (eKp (eV e) f)).map (·.1)))) else .fail) = _
    rw [keys_map]; rfl
  rw [e1]; exact h
/-! ### None or not, in lists -/
theorem p_toLO {xs : List α} (h : m' = .ret (eL e xs)) : m' = .ret (eL (eO e) (xs.map some)) := by
  rw [h]; show M.ret (D.lst _) = M.ret (D.lst _); rw [List.map_map]; rfl
theorem e_toLO {t : M (List α)} (h : Ev (eL e) m' t) : Ev (eL (eO e)) m' (t >>= fun xs => .ret (xs.map some)) := .of fun P q => h.run P (M.wp_mono (M.wp_bind.mp q) fun xs q d r => q d (by
  have r : d = eL e xs := r
  rw [r]; show D.lst _ = D.lst _; rw [List.map_map]; rfl))
/-! ### slices with bounds that do not come out at once -/
theorem o_someE {t : M Int} {g : Option Int → M δ} {R : γ → δ → Prop} {k : Int → M γ} (b : Ev eI (mb env) t) (h : ∀ l, Rf R (g (some l)) (k l)) : Rf R (oSome mb env >>= g) (t >>= k) := by
  have e : (oSome mb env >>= g) = (mb env >>= fun x => asI x >>= fun i => g (some i)) := by
    show ((mb env).bind fun x => (asI x).bind fun i => M.ret (some i)).bind g = _
    rw [M.bind_assoc']
    congr 1; funext x
    rw [M.bind_assoc'] <;> rfl
  rw [e]
  exact x_bind b h
theorem r_slLo {hi : DO} {h : Option Int} {x : D} {gg : D → Option Int → Option Int → M D} {t : M Int} {w : Int → α} (a : m env = .ret x) (b : Ev eI (mb env) t) (c : hi env = .ret h) (k : ∀ l, gg x (some l) h = .ret (e (w l))) : Ev e (mSl gg m (oSome mb) hi env) (t >>= fun l => .ret (w l)) := by
  unfold mSl; rw [a]
  exact o_someE b fun l => by rw [c]; show Rf _ (gg x (some l) h) _; rw [k]; exact Rf.ret rfl
theorem r_slHi {lo : DO} {l : Option Int} {x : D} {gg : D → Option Int → Option Int → M D} {t : M Int} {w : Int → α} (a : m env = .ret x) (c : lo env = .ret l) (b : Ev eI (mb env) t) (k : ∀ h, gg x l (some h) = .ret (e (w h))) : Ev e (mSl gg m lo (oSome mb) env) (t >>= fun h => .ret (w h)) := by
  unfold mSl; rw [a]
  show Rf _ (lo env >>= _) _
  rw [c]
  exact o_someE b fun h => by show Rf _ (gg x l (some h)) _; rw [k]; exact Rf.ret rfl
theorem r_slLH {x : D} {gg : D → Option Int → Option Int → M D} {t t' : M Int} {w : Int → Int → α} (a : m env = .ret x) (b : Ev eI (mb env) t) (c : Ev eI (mk env) t') (k : ∀ l h, gg x (some l) (some h) = .ret (e (w l h))) : Ev e (mSl gg m (oSome mb) (oSome mk) env) (t >>= fun l => t' >>= fun h => .ret (w l h)) := by
  unfold mSl; rw [a]
  exact o_someE b fun l => o_someE c fun h => by rw [k]; exact Rf.ret rfl
/-! ### signs of texts -/
def ixS (x : Str) (i : Int) : M Str := match atI x.cps.toList i with
  | some c => .ret ⟨#[c]⟩
  | none => .fail
theorem r_ixS (x : Str) (i : Int) : Ev eS (dIx (eS x) (eI i)) (ixS x i) := by
  show Ev eS (match atI x.cps.toList i with
    | some c => M.ret (.str ⟨#[c]⟩)
    | none => .fail) (match atI x.cps.toList i with
    | some c => .ret ⟨#[c]⟩
    | none => .fail)
  cases atI x.cps.toList i with
  | none => exact Rf.fail
  | some c => exact Rf.ret rfl
end
end DL

set_option Elab.async false
set_option linter.all false
set_option maxRecDepth 100000
/-! DL25: walks over dicts with nested keys, sorted tuples, int(..), two new lists, by plain functions. -/
namespace DL
open PySem PySem.Spec L2
open PyProof.Rows hiding St
section
variable {α β γ δ ρ σ : Type} {e : α → D} {f : β → D} {g : γ → D} {env : DEnv} {m ma mb mk mv mx md : DE} {m' : M D} {n : Nat}
theorem p_dispN [DecidableEq α] (c : Ekn e) {k : α} {v : β} (h1 : mk env = .ret (e k)) (h2 : mv env = .ret (f v)) : mDispN mk mv env = .ret (eM e f [(k, v)]) := by
  unfold mDispN; rw [h1]
  show (mv env >>= fun v => if keyOkN (e k) then M.ret (D.dcn [(e k, v)]) else .fail) = _
  rw [h2]
  show (if keyOkN (e k) then M.ret (D.dcn [(e k, f v)]) else .fail) = _
  rw [c.key]; rfl
theorem i_itemsN {xs : List (α × β)} (h : m env = .ret (eM e f xs)) : iItemsN m env = .ret (xs.map (eT2 e f)) := by
  unfold iItemsN; rw [h]
  show M.ret ((xs.map (eKp e f)).map pairD) = _
  rw [List.map_map]; rfl
theorem i_keysN {xs : List (α × β)} (h : m env = .ret (eM e f xs)) : iKeysN m env = .ret ((keysT xs).map e) := by
  unfold iKeysN; rw [h]
  show M.ret ((xs.map (eKp e f)).map (·.1)) = _
  rw [keys_map]; rfl
theorem r_sortedXV {lt : α → α → Bool} (q : Eo n lt e) (xs : List α) (hn : n ≤ 60 := by decide) : Ev (eL e) (dSortedX [eV e xs]) (sortM lt xs) := r_sorted q xs hn
theorem r_sortedXL {lt : α → α → Bool} (q : Eo n lt e) (xs : List α) (hn : n ≤ 60 := by decide) : Ev (eL e) (dSortedX [eL e xs]) (sortM lt xs) := r_sorted q xs hn
theorem o_intI (i : Int) : dInt [eI i] = .ret (eI i) := rfl
theorem o_intB (b : Bool) : dInt [eB b] = .ret (eI (if b then 1 else 0)) := by cases b <;> rfl
theorem s_parN {R : ρ → Fl × DEnv → Prop} {i j : Nat} {rest : DS} {t : M ρ} (k : Rf R (rest ((env.set i (some (.own (eL e [])))).set j (some (.own (eL f []))))) t) : Rf R (mSeq (mParN i j) rest env) t := k
/-! ### ends of blocks that change nothing -/
theorem e_goNp {E : σ → DEnv} {s : σ} (h : env = E s) : Rf (RN E) (mPass env) (.ret s) := by rw [h]; exact Rf.ret rfl
theorem e_goLp {E : σ → DEnv} {eρ : ρ → D} {s : σ} (h : env = E s) : Rf (RLp E eρ) (mPass env) (.ret (.go s)) := by rw [h]; exact Rf.ret rfl
theorem e_goXp {E : σ → DEnv} {s : σ} (h : env = E s) : Rf (RX E) (mPass env) (.ret s) := by rw [h]; exact Rf.ret (.inl rfl)
theorem e_goTp {E : σ → DEnv} {eρ : ρ → D} {s : σ} (h : env = E s) : Rf (RTn E eρ) (mPass env) (.ret (.go s)) := by rw [h]; exact Rf.ret (.inl rfl)
theorem r_andVP {a : Bool} {b : M Bool} (ha : ma env = .ret (eB a)) (hb : Ev eB (mb env) b) : Ev eB (mAndV ma mb env) (if a then b else .ret false) := by
  unfold mAndV; rw [ha]; cases a
  · exact Rf.ret rfl
  · exact hb
theorem r_orVP {a : Bool} {b : M Bool} (ha : ma env = .ret (eB a)) (hb : Ev eB (mb env) b) : Ev eB (mOrV ma mb env) (if a then .ret true else b) := by
  unfold mOrV; rw [ha]; cases a
  · exact hb
  · exact Rf.ret rfl
/-- the frame, written out -/
theorem s_env {R : γ → Fl × DEnv → Prop} {t : M γ} {ds : DS} {env env' : DEnv} (h : env = env') (k : Rf R (ds env') t) : Rf R (ds env) t := by rw [h]; exact k
/-- an own thing stands still from now on -/
theorem s_frzO {R : γ → Fl × DEnv → Prop} {t : M γ} {ds : DS} {env : DEnv} {i : Nat} {d : D} (hx : env[i]? = some (some (.own d))) (k : Rf R (ds (env.set i (some (.val d)))) t) : Rf R (mFrz i ds env) t := by
  unfold mFrz; rw [hx]; exact k
/-! ### by type, further -/
theorem q_OE {t : M (Option α)} (h : Ev (eO e) m' t) : Ev e m' (t >>= M.opt) := .of fun P z => h.run P (M.wp_mono (M.wp_bind.mp z) fun o z d r => by
  have r : d = eO e o := r
  subst r
  cases o with
  | none => exact z.elim
  | some a => exact z _ rfl)
def asLI : D → M (List Int)
  | .lst xs => M.opt (intsOf xs)
  | _ => .fail
theorem intsOf_map : ∀ {xs : List D} {is : List Int}, intsOf xs = some is → xs = is.map eI
  | [], is, h => by
    have h : some [] = some is := h
    cases h; rfl
  | x :: xs, is, h => by
    cases x with
    | int i =>
      have h' : (intsOf xs).map (i :: ·) = some is := h
      rw [Option.map_eq_some_iff] at h'
      obtain ⟨js, h1, rfl⟩ := h'
      rw [intsOf_map h1]; rfl
    | _ => cases h
theorem q_LI (d : D) : Ev (eL eI) (.ret d) (asLI d) := by
  cases d with
  | lst xs =>
    show Ev (eL eI) (.ret (.lst xs)) (M.opt (intsOf xs))
    cases h : intsOf xs with
    | none => exact Rf.fail
    | some is => exact Rf.ret (by rw [intsOf_map h]; rfl)
  | _ => exact Rf.fail
theorem r_chainE {op op' : D → D → M D} {mc : DE} {t : M α} {x z : D} {p q : α → Bool} (hx : ma env = .ret x) (hy : Ev e (mb env) t) (hz : mc env = .ret z) (h1 : ∀ v, op x (e v) = .ret (eB (p v))) (h2 : ∀ v, op' (e v) z = .ret (eB (q v))) :
    Ev eB (mChain op op' ma mb mc env) (t >>= fun v => .ret (p v && q v)) := by
  unfold mChain
  rw [hx]
  show Rf _ (mb env >>= fun y => op x y >>= asB >>= fun k => if k then mc env >>= fun z => op' y z else .ret (.bl false)) _
  refine x_bind hy fun v => ?_
  rw [h1]
  cases hp : p v with
  | true =>
    show Rf _ (mc env >>= fun z => op' (e v) z) _
    rw [hz]
    show Rf _ (op' (e v) z) _
    rw [h2]; exact Rf.ret rfl
  | false => exact Rf.ret rfl
end
end DL

set_option Elab.async false
set_option linter.all false
set_option maxRecDepth 100000
/-! DL26: zip, xs[i] = y, break, triples, max, [x] * n, sets, by plain functions. -/
namespace DL
open PySem PySem.Spec L2
open PyProof.Rows hiding St
section
variable {α β γ δ ρ σ : Type} {e : α → D} {f : β → D} {g : γ → D} {env : DEnv} {m ma mb mk mv mx md : DE} {m' : M D} {n : Nat}
/-! ### zip -/
theorem zip_map : ∀ (xs : List α) (ys : List β), zipD (xs.map e) (ys.map f) = (xs.zip ys).map (eT2 e f)
  | [], _ => by simp [zipD]
  | _ :: _, [] => by simp [zipD]
  | x :: xs, y :: ys => by rw [List.map_cons, List.map_cons, zipD, zip_map xs ys]; rfl
theorem i_zipL {xs : List α} {ys : List β} (h : ma env = .ret (eL e xs)) (h' : mb env = .ret (eL f ys)) : iZipX ma mb env = .ret ((xs.zip ys).map (eT2 e f)) := by
  unfold iZipX; rw [h]
  show (mb env >>= _) = _
  rw [h']
  show M.ret (zipD (xs.map e) (ys.map f)) = _
  rw [zip_map]
theorem i_zipV {xs : List α} {ys : List β} (h : ma env = .ret (eV e xs)) (h' : mb env = .ret (eV f ys)) : iZipX ma mb env = .ret ((xs.zip ys).map (eT2 e f)) := by
  unfold iZipX; rw [h]
  show (mb env >>= _) = _
  rw [h']
  show M.ret (zipD (xs.map e) (ys.map f)) = _
  rw [zip_map]
/-! ### xs[i] = y -/
def setM (xs : List α) (i : Int) (y : α) : M (List α) := match ixN xs.length i with
  | some j => .ret (xs.set j y)
  | none => .fail
theorem s_putLP {R : ρ → Fl × DEnv → Prop} {i : Nat} {rest : DS} {xs : List α} {k : Int} {v : α} {t : List α → M ρ} (h1 : mv env = .ret (e v)) (h2 : mk env = .ret (eI k)) (hx : env[i]? = some (some (.own (eL e xs)))) (q : ∀ ys, Rf R (rest (env.set i (some (.own (eL e ys))))) (t ys)) :
    Rf R (mSeq (mPutL i mk mv) rest env) (setM xs k v >>= t) := by
  unfold mSeq mPutL
  rw [h1]
  show Rf R ((mk env >>= fun k => match env[i]?, k with
    | some (some (.own (.lst xs))), .int j => match ixN xs.length j with
      | some n => M.ret (Fl.nx, env.set i (some (.own (.lst (xs.set n (e v))))))
      | none => .fail
    | _, _ => .fail) >>= _) _
  rw [h2]
  show Rf R ((match env[i]?, D.int k with
    | some (some (.own (.lst xs))), .int j => match ixN xs.length j with
      | some n => M.ret (Fl.nx, env.set i (some (.own (.lst (xs.set n (e v))))))
      | none => .fail
    | _, _ => .fail) >>= _) _
  rw [hx]
  show Rf R ((match ixN (xs.map e).length k with
      | some n => M.ret (Fl.nx, env.set i (some (.own (.lst ((xs.map e).set n (e v))))))
      | none => .fail) >>= _) _
  rw [List.length_map]
  unfold setM
  cases ixN xs.length k with
  | none => exact Rf.fail
  | some j =>
    have h := q (xs.set j v)
    unfold eL at h
    rw [List.map_set] at h
    exact h
theorem s_putLE {R : ρ → Fl × DEnv → Prop} {i : Nat} {rest : DS} {xs : List α} {k : Int} {t1 : M α} {t : List α → M ρ} (h1 : Ev e (mv env) t1) (h2 : mk env = .ret (eI k)) (hx : env[i]? = some (some (.own (eL e xs)))) (q : ∀ ys, Rf R (rest (env.set i (some (.own (eL e ys))))) (t ys)) :
    Rf R (mSeq (mPutL i mk mv) rest env) (t1 >>= fun v => setM xs k v >>= t) := by
  have w : mSeq (mPutL i mk mv) rest env = (mv env >>= fun d => mSeq (mPutL i mk (mC d)) rest env) := by
    show ((mv env).bind fun d => _).bind _ = _
    rw [M.bind_assoc']; rfl
  rw [w]
  exact x_bind h1 fun v => s_putLP (e := e) rfl h2 hx q
theorem r_chainPX {op op' : D → D → M D} {mc : DE} {tc : M β} {x y : D} {p : Bool} {q : β → Bool} (hx : ma env = .ret x) (hy : mb env = .ret y) (hz : Ev f (mc env) tc) (h1 : op x y = .ret (eB p)) (h2 : ∀ w, op' y (f w) = .ret (eB (q w))) :
    Ev eB (mChain op op' ma mb mc env) (if p then tc >>= fun w => .ret (q w) else .ret false) := by
  unfold mChain
  rw [hx]
  show Rf _ (mb env >>= fun y => op x y >>= asB >>= fun k => if k then mc env >>= fun z => op' y z else .ret (.bl false)) _
  rw [hy]
  show Rf _ (op x y >>= asB >>= fun k => if k then mc env >>= fun z => op' y z else .ret (.bl false)) _
  rw [h1]
  cases p with
  | true => exact x_bind hz fun w => by rw [h2]; exact Rf.ret rfl
  | false => exact Rf.ret rfl
theorem r_chainEX {op op' : D → D → M D} {mc : DE} {tb : M α} {tc : M β} {x : D} {p : α → Bool} {q : α → β → Bool} (hx : ma env = .ret x) (hy : Ev e (mb env) tb) (hz : Ev f (mc env) tc) (h1 : ∀ v, op x (e v) = .ret (eB (p v))) (h2 : ∀ v w, op' (e v) (f w) = .ret (eB (q v w))) :
    Ev eB (mChain op op' ma mb mc env) (tb >>= fun v => if p v then tc >>= fun w => .ret (q v w) else .ret false) := by
  unfold mChain
  rw [hx]
  show Rf _ (mb env >>= fun y => op x y >>= asB >>= fun k => if k then mc env >>= fun z => op' y z else .ret (.bl false)) _
  refine x_bind hy fun v => ?_
  rw [h1]
  show Rf _ (M.ret (p v) >>= fun k => if k then mc env >>= fun z => op' (e v) z else .ret (.bl false)) _
  cases p v with
  | true => exact x_bind hz fun w => by rw [h2]; exact Rf.ret rfl
  | false => exact Rf.ret rfl
theorem q_T3V {t : M (α × α × α)} (h : Ev (eT3 e e e) m' t) : Ev (eV e) m' (t >>= fun v => .ret [v.1, v.2.1, v.2.2]) := .of fun P z => h.run P (M.wp_mono (M.wp_bind.mp z) fun v z d r => z d r)
/-! ### break -/
theorem e_brk {R : γ → Fl × DEnv → Prop} {ws : List Nat} {x : γ} (h : R x (.bk, wipeE env ws)) : Rf R (mForget ws mBrk env) (.ret x) := Rf.ret h
/-! ### triples -/
def asT3V : List Int → M (Int × Int × Int)
  | [a, b, c] => .ret (a, b, c)
  | _ => .fail
theorem q_VT3 (xs : List Int) : Ev (eT3 eI eI eI) (.ret (eV eI xs)) (asT3V xs) := by
  match xs with
  | [] => exact Rf.fail
  | [_] => exact Rf.fail
  | [_, _] => exact Rf.fail
  | [_, _, _] => exact Rf.ret rfl
  | _ :: _ :: _ :: _ :: _ => exact Rf.fail
theorem q_VT3P {xs : List Int} (h : m' = .ret (eV eI xs)) : Ev (eT3 eI eI eI) m' (asT3V xs) := by rw [h]; exact q_VT3 xs
theorem q_VT3E {t : M (List Int)} (h : Ev (eV eI) m' t) : Ev (eT3 eI eI eI) m' (t >>= asT3V) := .of fun P z => h.run P (M.wp_mono (M.wp_bind.mp z) fun xs z d r => by
  have r : d = eV eI xs := r
  subst r
  exact (q_VT3 xs).run P z)
def asT3D : D → M (Int × Int × Int)
  | .tup [.int a, .int b, .int c] => .ret (a, b, c)
  | _ => .fail
theorem q_T3 (d : D) : Ev (eT3 eI eI eI) (.ret d) (asT3D d) := by
  unfold asT3D
  split
  · exact Rf.ret rfl
  · exact Rf.fail
def asLT3L : List D → M (List (Int × Int × Int))
  | [] => .ret []
  | d :: ds => asT3D d >>= fun x => asLT3L ds >>= fun xs => .ret (x :: xs)
def asLT3 : D → M (List (Int × Int × Int))
  | .lst ds => asLT3L ds
  | _ => .fail
theorem asLT3L_eq : ∀ {ds : List D} {xs : List (Int × Int × Int)}, asLT3L ds = .ret xs → ds = xs.map (eT3 eI eI eI)
  | [], xs, h => by cases h; rfl
  | d :: ds, xs, h => by
    rw [asLT3L] at h
    unfold asT3D at h
    split at h
    · rename_i a b c
      cases h2 : asLT3L ds with
      | ret ys =>
        rw [h2] at h
        have h : M.ret ((a, b, c) :: ys) = M.ret xs := h
        cases h
        rw [asLT3L_eq h2]; rfl
      | fail => rw [h2] at h; cases h
      | ask k f => rw [h2] at h; cases h
    · cases h
theorem asLT3L_no : ∀ (ds : List D) (k : Int) (f : Int → M (List (Int × Int × Int))), asLT3L ds ≠ .ask k f
  | [], k, f, h => by cases h
  | d :: ds, k, f, h => by
    rw [asLT3L] at h
    unfold asT3D at h
    split at h
    · cases h2 : asLT3L ds with
      | ret ys => rw [h2] at h; cases h
      | fail => rw [h2] at h; cases h
      | ask k' f' => exact asLT3L_no ds k' f' h2
    · cases h
theorem q_LT3 (d : D) : Ev (eL (eT3 eI eI eI)) (.ret d) (asLT3 d) := by
  cases d with
  | lst ds =>
    show Ev _ (.ret (.lst ds)) (asLT3L ds)
    cases h : asLT3L ds with
    | ret xs => exact Rf.ret (by rw [asLT3L_eq h]; rfl)
    | fail => exact Rf.fail
    | ask k f => exact absurd h (asLT3L_no ds k f)
  | _ => exact Rf.fail
/-! ### max, [x] * n, sets -/
def maxM (xs : List Int) : M Int := if 0 < xs.length then .ret (maxI xs) else .fail
theorem r_max (xs : List Int) : Ev eI (dMax [eL eI xs]) (maxM xs) := by
  show Ev eI (M.opt (intsOf (xs.map eI)) >>= fun bs => if 0 < bs.length then M.ret (.int (maxI bs)) else .fail) _
  rw [ints_map]
  show Ev eI (if 0 < xs.length then M.ret (.int (maxI xs)) else .fail) _
  unfold maxM
  split
  · exact Rf.ret rfl
  · exact Rf.fail
theorem o_max2 (a b : Int) : dMax [eI a, eI b] = .ret (eI (if b > a then b else a)) := rfl
def repM (xs : List α) (k : Int) : M (List α) := if decide (-(2 ^ 63) ≤ k) && (decide (k < 2 ^ 63) && decide (xs.length * k.toNat ≤ sizeLine)) then .ret (List.replicate k.toNat xs).flatten else .fail
theorem r_rep (xs : List α) (k : Int) : Ev (eL e) (dRep (eL e xs) (eI k)) (repM xs k) := by
  show Ev _ (if decide (-(2 ^ 63) ≤ k) && (decide (k < 2 ^ 63) && decide ((xs.map e).length * k.toNat ≤ sizeLine)) then M.ret (.lst (List.replicate k.toNat (xs.map e)).flatten) else .fail) _
  rw [List.length_map]
  unfold repM
  split
  · refine Rf.ret ?_
    show D.lst _ = D.lst _
    rw [List.map_flatten, List.map_replicate]
  · exact Rf.fail
def sortSetM (xs : List Int) : M (List Int) := if xs.length < 4000 ∧ (uniqI xs).length < 64 then .ret (uniqI xs) else .fail
theorem r_sortSet {xs : List Int} (h : m env = .ret (eL eI xs)) : Ev (eL eI) (mSortSet m env) (sortSetM xs) := by
  unfold mSortSet; rw [h]
  show Ev _ (M.opt (intsOf (xs.map eI)) >>= fun ns => if ns.length < 4000 ∧ (uniqI ns).length < 64 then M.ret (.lst ((uniqI ns).map D.int)) else .fail) _
  rw [ints_map]
  show Ev _ (if xs.length < 4000 ∧ (uniqI xs).length < 64 then M.ret (.lst ((uniqI xs).map D.int)) else .fail) _
  unfold sortSetM
  split
  · exact Rf.ret rfl
  · exact Rf.fail
theorem r_sortSetE {t : M (List Int)} (h : Ev (eL eI) (m env) t) : Ev (eL eI) (mSortSet m env) (t >>= sortSetM) := x_bind h fun xs => by
  show Ev _ (M.opt (intsOf (xs.map eI)) >>= fun ns => if ns.length < 4000 ∧ (uniqI ns).length < 64 then M.ret (.lst ((uniqI ns).map D.int)) else .fail) _
  rw [ints_map]
  show Ev _ (if xs.length < 4000 ∧ (uniqI xs).length < 64 then M.ret (.lst ((uniqI xs).map D.int)) else .fail) _
  unfold sortSetM
  split
  · exact Rf.ret rfl
  · exact Rf.fail
def lenSetM (xs : List (List Int)) : M Int := if xs.length < 64 then .ret ((dedupT xs).length : Nat) else .fail
theorem tups_map : ∀ xs : List (List Int), tupsOf (xs.map (eV eI)) = some xs
  | [] => rfl
  | x :: xs => by
    rw [List.map_cons]
    show (match intsOf (x.map eI), tupsOf (xs.map (eV eI)) with
      | some y, some ys' => some (y :: ys')
      | _, _ => none) = _
    rw [ints_map, tups_map xs]
theorem r_lenSet {xs : List (List Int)} (h : m env = .ret (eL (eV eI) xs)) : Ev eI (mLenSet m env) (lenSetM xs) := by
  unfold mLenSet; rw [h]
  show Ev _ (M.opt (tupsOf (xs.map (eV eI))) >>= fun rows => if rows.length < 64 then M.ret (.int (dedupT rows).length) else .fail) _
  rw [tups_map]
  show Ev _ (if xs.length < 64 then M.ret (.int (dedupT xs).length) else .fail) _
  unfold lenSetM
  split
  · exact Rf.ret rfl
  · exact Rf.fail
theorem r_lenSetE {t : M (List (List Int))} (h : Ev (eL (eV eI)) (m env) t) : Ev eI (mLenSet m env) (t >>= lenSetM) := x_bind h fun xs => by
  show Ev _ (M.opt (tupsOf (xs.map (eV eI))) >>= fun rows => if rows.length < 64 then M.ret (.int (dedupT rows).length) else .fail) _
  rw [tups_map]
  show Ev _ (if xs.length < 64 then M.ret (.int (dedupT xs).length) else .fail) _
  unfold lenSetM
  split
  · exact Rf.ret rfl
  · exact Rf.fail
end
end DL

set_option Elab.async false
set_option linter.all false
set_option maxRecDepth 100000
/-! DL27: dicts with keys that are pairs, dicts with plain keys, sets of texts, range of three, by plain functions. -/
namespace DL
open PySem PySem.Spec L2
open PyProof.Rows hiding St
section
variable {α β γ δ ρ σ : Type} {e : α → D} {f : β → D} {g : γ → D} {env : DEnv} {m ma mb mc mk mv mx md : DE} {m' : M D} {n n' k k' : Nat}
/-! ### keys -/
theorem knT2 [DecidableEq α] [DecidableEq β] (c : Ec k e) (d : Ec k' f) (a : Nk n e) (b : Nk n' f) (hn : max n n' + 1 ≤ 8 := by decide) : Ekn (eT2 e f) := ⟨fun p => by
  obtain ⟨z, h1, h2⟩ := nkT2 a b p
  exact keyOkN_tup h1 (by omega), fun a b => (cT2 c d).beq a b⟩
theorem nkT3 {n3 : Nat} (a : Nk n e) (b : Nk n' f) (c : Nk n3 g) : Nk (max n (max n' n3) + 1) (eT3 e f g) := fun p => by
  obtain ⟨k1, e1, h1⟩ := a p.1
  obtain ⟨k2, e2, h2⟩ := b p.2.1
  obtain ⟨k3, e3, h3⟩ := c p.2.2
  refine ⟨.tup [k1, k2, k3], by simp [eT3, D.nk, D.nkL, e1, e2, e3], ?_⟩
  simp only [NestedKey.depth, NestedKey.depthAll]
  omega
theorem knT3 [DecidableEq α] [DecidableEq β] [DecidableEq γ] {k3 n3 : Nat} (c : Ec k e) (d : Ec k' f) (c3 : Ec k3 g) (a : Nk n e) (b : Nk n' f) (d3 : Nk n3 g) (hn : max n (max n' n3) + 1 ≤ 8 := by decide) : Ekn (eT3 e f g) := ⟨fun p => by
  obtain ⟨z, h1, h2⟩ := nkT3 a b d3 p
  exact keyOkN_tup h1 (by omega), fun a b => (cT3 c d c3).beq a b⟩
section
variable [DecidableEq α]
theorem r_getNE (c : Ekn e) {to : M (List (α × β))} {tk : M α} {tx : M β} (ho : Ev (eM e f) (m env) to) (hk : Ev e (mk env) tk) (hx : Ev f (mx env) tx) : Ev f (mGetN m mk mx env) (to >>= fun xs => tk >>= fun k => tx >>= fun x => .ret (getDT xs k x)) :=
  x_bind (g := fun o => match o with
    | .dcn kvs => mk env >>= fun k => mx env >>= fun x => if keyOkN k then .ret ((valD kvs k).getD x) else .fail
    | _ => .fail) ho fun xs => x_bind hk fun k => x_bind hx fun x => by
    show Rf _ (if keyOkN (e k) then M.ret ((valD (xs.map (eKp e f)) (e k)).getD (f x)) else .fail) _
    rw [c.key, val_mapN c]
    unfold getDT
    cases valT xs k <;> exact Rf.ret rfl
theorem r_getKE (c : Ek e) {to : M (List (α × β))} {tk : M α} {tx : M β} (ho : Ev (eK e f) (m env) to) (hk : Ev e (mk env) tk) (hx : Ev f (mx env) tx) : Ev f (mGet2 m mk mx env) (to >>= fun xs => tk >>= fun k => tx >>= fun x => .ret (getDT xs k x)) :=
  x_bind (g := fun o => match o with
    | .dct t kvs => mk env >>= fun k => mx env >>= fun x => if keyOk t k then .ret ((valD kvs k).getD x) else .fail
    | _ => .fail) ho fun xs => x_bind hk fun k => x_bind hx fun x => by
    show Rf _ (if keyOk false (e k) then M.ret ((valD (xs.map (eKp e f)) (e k)).getD (f x)) else .fail) _
    rw [show keyOk false (e k) = true from c.key k, val_map c]
    unfold getDT
    cases valT xs k <;> exact Rf.ret rfl
theorem s_putNE {R : ρ → Fl × DEnv → Prop} {i : Nat} {rest : DS} (c : Ekn e) {xs : List (α × β)} {tk : M α} {tv : M β} {t : List (α × β) → M ρ} (h1 : Ev f (mv env) tv) (h2 : Ev e (mk env) tk) (hx : env[i]? = some (some (.own (eM e f xs)))) (q : ∀ ys, Rf R (rest (env.set i (some (.own (eM e f ys))))) (t ys)) :
    Rf R (mSeq (mPutN i mk mv) rest env) (tv >>= fun v => tk >>= fun k => putM xs k v >>= t) := by
  unfold mSeq mPutN
  rw [show ∀ (g1 : D → M (Fl × DEnv)) g2, ((mv env >>= g1) >>= g2 : M (Fl × DEnv)) = (mv env >>= fun d => g1 d >>= g2) from fun g1 g2 => M.bind_assoc' ..]
  refine x_bind h1 fun v => ?_
  rw [show ∀ (g1 : D → M (Fl × DEnv)) g2, ((mk env >>= g1) >>= g2 : M (Fl × DEnv)) = (mk env >>= fun d => g1 d >>= g2) from fun g1 g2 => M.bind_assoc' ..]
  refine x_bind h2 fun k => ?_
  rw [hx]
  show Rf R ((if keyOkN (e k) && decide ((xs.map (eKp e f)).length < sizeLine) then M.ret (Fl.nx, env.set i (some (.own (.dcn (putD (xs.map (eKp e f)) (e k) (f v)))))) else .fail) >>= _) _
  rw [c.key, List.length_map, put_mapN c]
  unfold putM
  by_cases z : xs.length < sizeLine
  · rw [if_pos z, decide_eq_true z]; exact q _
  · rw [if_neg z, decide_eq_false z]; exact Rf.fail
theorem s_putKE {R : ρ → Fl × DEnv → Prop} {i : Nat} {rest : DS} (c : Ek e) {xs : List (α × β)} {tk : M α} {tv : M β} {t : List (α × β) → M ρ} (h1 : Ev f (mv env) tv) (h2 : Ev e (mk env) tk) (hx : env[i]? = some (some (.own (eK e f xs)))) (q : ∀ ys, Rf R (rest (env.set i (some (.own (eK e f ys))))) (t ys)) :
    Rf R (mSeq (mPutD i mk mv) rest env) (tv >>= fun v => tk >>= fun k => putM xs k v >>= t) := by
  unfold mSeq mPutD
  rw [show ∀ (g1 : D → M (Fl × DEnv)) g2, ((mv env >>= g1) >>= g2 : M (Fl × DEnv)) = (mv env >>= fun d => g1 d >>= g2) from fun g1 g2 => M.bind_assoc' ..]
  refine x_bind h1 fun v => ?_
  rw [show ∀ (g1 : D → M (Fl × DEnv)) g2, ((mk env >>= g1) >>= g2 : M (Fl × DEnv)) = (mk env >>= fun d => g1 d >>= g2) from fun g1 g2 => M.bind_assoc' ..]
  refine x_bind h2 fun k => ?_
  rw [hx]
  show Rf R ((if keyOk false (e k) && decide ((xs.map (eKp e f)).length < sizeLine) then M.ret (Fl.nx, env.set i (some (.own (.dct false (putD (xs.map (eKp e f)) (e k) (f v)))))) else .fail) >>= _) _
  rw [show keyOk false (e k) = true from c.key k, List.length_map, put_map c]
  unfold putM
  by_cases z : xs.length < sizeLine
  · rw [if_pos z, decide_eq_true z]; exact q _
  · rw [if_neg z, decide_eq_false z]; exact Rf.fail
end
theorem i_keysK {xs : List (α × β)} (h : m env = .ret (eK e f xs)) : iKeysK m env = .ret ((keysT xs).map e) := by
  unfold iKeysK; rw [h]
  show M.ret ((xs.map (eKp e f)).map (·.1)) = _
  rw [keys_map]; rfl
theorem r_sortedK {lt : α → α → Bool} (q : Eo n lt e) (xs : List (α × β)) (hn : n ≤ 60 := by decide) : Ev (eL e) (dSortedK [eK e f xs]) (sortM lt (keysT xs)) := by
  have h := r_sorted q (keysT xs) hn
  have e1 : dSortedK [eK e f xs] = dSorted [eL e (keysT xs)] := by
    show (if srtOk ((xs.map (eKp e f)).map (·.1)) then M.ret (D.lst (sortD ((xs.map (eKp e f)).map (·.1)))) else .fail) = _
    rw [keys_map]; rfl
  rw [e1]; exact h
/-! ### sets of texts -/
def sortSetSM (xs : List Str) : M (List Str) := if xs.length < 4000 then .ret (sortT ltS (onceS xs)) else .fail
theorem strs_map : ∀ xs : List Str, strsOf (xs.map eS) = some xs
  | [] => rfl
  | x :: xs => by
    rw [List.map_cons]
    show (strsOf (xs.map eS)).map (x :: ·) = _
    rw [strs_map xs]; rfl
theorem r_sortSetSE {t : M (List Str)} (h : Ev (eL eS) (m env) t) : Ev (eL eS) (mSortSetS m env) (t >>= sortSetSM) := x_bind h fun xs => by
  show Rf _ (M.opt (strsOf (xs.map eS)) >>= fun ss => if ss.length < 4000 then M.ret (D.lst (sortD ((onceS ss).map D.str))) else .fail) _
  rw [strs_map]
  show Rf _ (if xs.length < 4000 then M.ret (D.lst (sortD ((onceS xs).map eS))) else .fail) _
  unfold sortSetSM
  split
  · rw [sort_map qS]; exact Rf.ret rfl
  · exact Rf.fail
/-! ### range of three -/
def rg3T (i j k : Int) : List Int := (List.range (rg3N i j k)).map fun t => i + (t : Nat) * k
def rg3M (i j k : Int) : M (List Int) := if rg3Ok i j k then .ret (rg3T i j k) else .fail
theorem i_rg3P {ti tj tk : M Int} (h1 : Ev eI (ma env) ti) (h2 : Ev eI (mb env) tj) (h3 : Ev eI (mc env) tk) : Rf (fun xs ds => ds = xs.map eI) (iRg3P ma mb mc env) (ti >>= fun i => tj >>= fun j => tk >>= fun k => rg3M i j k) :=
  x_bind h1 fun i => x_bind h2 fun j => x_bind h3 fun k => by
    show Rf _ (if rg3Ok i j k then M.ret (rgD3 i k (rg3N i j k)) else .fail) _
    unfold rg3M
    split
    · exact Rf.ret (by unfold rg3T rgD3; rw [List.map_map]; rfl)
    · exact Rf.fail
/-! ### trees: a number and a list -/
def asTIL : D → M (Int × List D)
  | .tup [.int a, .lst xs] => .ret (a, xs)
  | _ => .fail
theorem q_TIL (d : D) : Ev (eT2 eI (eL eD)) (.ret d) (asTIL d) := by
  unfold asTIL
  split
  · refine Rf.ret ?_
    show D.tup _ = D.tup _
    simp [eI, eL, eD]
  · exact Rf.fail
def eX : Unit → D := fun _ => .stt
variable {e1 : α → D} {e2 : β → D} {e3 : γ → D} {e4 : δ → D}
theorem o_cat12 (p : α) (q : β × γ) : dAdd (eT1 e1 p) (eT2 e2 e3 q) = .ret (eT3 e1 e2 e3 (p, q.1, q.2)) := rfl
theorem o_cat21 (p : α × β) (q : γ) : dAdd (eT2 e1 e2 p) (eT1 e3 q) = .ret (eT3 e1 e2 e3 (p.1, p.2, q)) := rfl
theorem o_cat11 (p : α) (q : β) : dAdd (eT1 e1 p) (eT1 e2 q) = .ret (eT2 e1 e2 (p, q)) := rfl
theorem o_cat31 (p : α × β × γ) (q : δ) : dAdd (eT3 e1 e2 e3 p) (eT1 e4 q) = .ret (eT4 e1 e2 e3 e4 (p.1, p.2.1, p.2.2, q)) := rfl
theorem o_cat22 (p : α × β) (q : γ × δ) : dAdd (eT2 e1 e2 p) (eT2 e3 e4 q) = .ret (eT4 e1 e2 e3 e4 (p.1, p.2, q.1, q.2)) := rfl
end
end DL

set_option Elab.async false
set_option linter.all false
set_option maxRecDepth 100000
/-! DM1: plain functions of M: results without draws, loops by invariants. -/
namespace DL
open PySem PySem.Spec L2
open PyProof.Rows hiding St
section
variable {α β γ δ σ ρ : Type}
/-- m is a result of which P holds -/
def Rt (m : M α) (P : α → Prop) : Prop := ∃ a, m = .ret a ∧ P a
theorem Rt.wp {m : M α} {P : α → Prop} (h : Rt m P) : m.wp P := by obtain ⟨a, rfl, h⟩ := h; exact h
theorem Rt.ret {a : α} {P : α → Prop} (h : P a) : Rt (.ret a) P := ⟨a, rfl, h⟩
theorem Rt.bind {m : M α} {g : α → M β} {P : α → Prop} {Q : β → Prop} (h : Rt m P) (k : ∀ a, P a → Rt (g a) Q) : Rt (m >>= g) Q := by obtain ⟨a, rfl, h⟩ := h; exact k a h
theorem Rt.mono {m : M α} {P Q : α → Prop} (h : Rt m P) (k : ∀ a, P a → Q a) : Rt m Q := by obtain ⟨a, e, h⟩ := h; exact ⟨a, e, k a h⟩
theorem wp_b {m : M α} {g : α → M β} {P : α → Prop} {Q : β → Prop} (h : m.wp P) (k : ∀ a, P a → (g a).wp Q) : (m >>= g).wp Q := M.wp_bind.mpr (M.wp_mono h k)
theorem wp_ask {k : Int} {f : Int → M α} {P : α → Prop} (h0 : 0 < k) (h1 : k < 1000000) (h : ∀ i, 0 ≤ i → i < k → (f i).wp P) : (askM k >>= f).wp P := by
  show (M.ask k fun i => f i).wp P
  exact ⟨⟨h0, by omega⟩, h⟩
theorem wp_ask1 {k : Int} {P : Int → Prop} (h0 : 0 < k) (h1 : k < 1000000) (h : ∀ i, 0 ≤ i → i < k → P i) : (askM k).wp P := ⟨⟨h0, by omega⟩, h⟩
/-! ### look-ups -/
theorem ixM_ret {xs : List α} {i : Int} (d : α) (h0 : 0 ≤ i) (h1 : i < xs.length) : ixM xs i = .ret (xs.getD i.toNat d) := by
  have h2 : i.toNat < xs.length := by omega
  unfold ixM atI ixN
  rw [if_pos h0, if_pos h1]
  show M.opt (xs[i.toNat]?) = _
  rw [List.getD_eq_getElem?_getD, List.getElem?_eq_getElem h2]
  rfl
theorem setM_ret {xs : List α} {i : Int} (y : α) (h0 : 0 ≤ i) (h1 : i < xs.length) : setM xs i y = .ret (xs.set i.toNat y) := by
  unfold setM ixN
  rw [if_pos h0, if_pos h1]
theorem rgM_nat {n : Nat} (h : n ≤ 1000) : rgM 0 (n : Int) = .ret ((List.range n).map fun i : Nat => (i : Int)) := by
  unfold rgM
  have e : rgOk 0 (n : Int) = true := by simp only [rgOk, Bool.and_eq_true, decide_eq_true_eq]; omega
  rw [if_pos e]
  have e3 : rgT 0 (n : Int) = (List.range n).map fun i : Nat => (i : Int) := by
    unfold rgT
    have e2 : ((n : Int) - 0).toNat = n := by omega
    rw [e2]
    exact List.map_congr_left fun i _ => Int.zero_add _
  rw [e3]
theorem catM_ret {xs ys : List α} (h : xs.length + ys.length ≤ 100000) : catM xs ys = .ret (xs ++ ys) := by
  unfold catM
  rw [if_pos (by rw [sizeLine_eq]; omega)]
theorem appM_ret {xs : List α} {y : α} (h : xs.length < 100000) : appM xs y = .ret (xs ++ [y]) := by
  unfold appM
  rw [if_pos (by rw [sizeLine_eq]; omega)]
theorem cutD_take (xs : List α) (k : Nat) : cutD xs none (some (k : Int)) = xs.take k := by
  unfold cutD
  rw [HT.sIx_nat, HT.sIx_none]
  simp only [List.drop_zero, Nat.sub_zero]
  rw [List.take_eq_take_min, Nat.min_assoc, Nat.min_self, ← List.take_eq_take_min]
theorem cutD_drop (xs : List α) (k : Nat) : cutD xs (some (k : Int)) none = xs.drop k := by
  unfold cutD
  rw [HT.sIx_nat, HT.sIx_none]
  rcases Nat.le_total k xs.length with h | h
  · rw [Nat.min_eq_left h, List.take_of_length_le (by rw [List.length_drop]; omega)]
  · rw [Nat.min_eq_right h, Nat.sub_self, List.take_zero, List.drop_eq_nil_of_le h]
/-! ### comprehensions, loops -/
theorem lcM_ret {c : α → M Bool} {f : α → M β} {c' : α → Bool} {f' : α → β} : ∀ {xs : List α}, (∀ x ∈ xs, c x = .ret (c' x)) → (∀ x ∈ xs, c' x = true → f x = .ret (f' x)) → lcM c f xs = .ret ((xs.filter c').map f')
  | [], _, _ => rfl
  | x :: xs, hc, hf => by
    unfold lcM
    rw [hc x List.mem_cons_self, M.bind_ret, lcM_ret (fun y hy => hc y (List.mem_cons_of_mem _ hy)) (fun y hy => hf y (List.mem_cons_of_mem _ hy)), List.filter_cons]
    cases h : c' x with
    | true => simp only [if_true]; rw [hf x List.mem_cons_self h]; rfl
    | false => simp
theorem lcM_all {f : α → M β} {f' : α → β} {xs : List α} (hf : ∀ x ∈ xs, f x = .ret (f' x)) : lcM (fun _ => M.ret true) f xs = .ret (xs.map f') := by
  have h := lcM_ret (c := fun _ => M.ret true) (f := f) (c' := fun _ => true) (f' := f') (xs := xs) (fun _ _ => rfl) (fun x hx _ => hf x hx)
  rw [h, List.filter_eq_self.mpr (fun _ _ => rfl)]
theorem lcM_fil {c : α → M Bool} {c' : α → Bool} {xs : List α} (hc : ∀ x ∈ xs, c x = .ret (c' x)) : lcM c (fun x => M.ret x) xs = .ret (xs.filter c') := by
  have h := lcM_ret (c := c) (f := fun x => M.ret x) (c' := c') (f' := id) (xs := xs) hc (fun _ _ _ => rfl)
  rw [h]; simp
theorem wp_lcM {f : α → M β} {Q : β → Prop} : ∀ {xs : List α}, (∀ x ∈ xs, (f x).wp Q) → (lcM (fun _ => M.ret true) f xs).wp fun ys => ys.length = xs.length ∧ ∀ y ∈ ys, Q y
  | [], _ => ⟨rfl, fun y hy => absurd hy (by simp)⟩
  | x :: xs, h => by
    unfold lcM
    rw [M.bind_ret, if_pos rfl]
    refine wp_b (h x List.mem_cons_self) fun y hy => wp_b (wp_lcM fun z hz => h z (List.mem_cons_of_mem _ hz)) fun ys ⟨h1, h2⟩ => ⟨by simp [h1], fun z hz => ?_⟩
    rcases List.mem_cons.mp hz with rfl | hz
    · exact hy
    · exact h2 z hz
/-- a loop by what holds of what is walked -/
theorem rt_loopM {f : α → σ → M σ} (I : List α → σ → Prop) : ∀ (xs pre : List α) (s : σ), (∀ x ∈ xs, ∀ pre s, I pre s → Rt (f x s) (I (pre ++ [x]))) → I pre s → Rt (loopM f xs s) (I (pre ++ xs))
  | [], pre, s, _, h => Rt.ret (by rw [List.append_nil]; exact h)
  | x :: xs, pre, s, hf, h => by
    unfold loopM
    refine (hf x List.mem_cons_self pre s h).bind fun s' h' => ?_
    have := rt_loopM I xs (pre ++ [x]) s' (fun y hy => hf y (List.mem_cons_of_mem _ hy)) h'
    rwa [List.append_assoc] at this
theorem rt_loopM0 {f : α → σ → M σ} (I : List α → σ → Prop) {xs : List α} {s : σ} (hf : ∀ x ∈ xs, ∀ pre s, I pre s → Rt (f x s) (I (pre ++ [x]))) (h : I [] s) : Rt (loopM f xs s) (I xs) := by
  have := rt_loopM I xs [] s hf h
  simpa using this
def loopP (f : α → σ → Fw σ ρ) : List α → σ → Fw σ ρ
  | [], s => .go s
  | x :: xs, s => match f x s with
    | .go s' => loopP f xs s'
    | .brk s' => .go s'
    | .back r => .back r
theorem loopR_ret {f : α → σ → M (Fw σ ρ)} {g : α → σ → Fw σ ρ} (I : σ → Prop) : ∀ {xs : List α} {s : σ}, I s → (∀ x ∈ xs, ∀ s, I s → f x s = .ret (g x s) ∧ ∀ s', g x s = .go s' → I s') → loopR f xs s = .ret (loopP g xs s)
  | [], s, _, _ => rfl
  | x :: xs, s, h, hf => by
    unfold loopR loopP
    obtain ⟨e, k⟩ := hf x List.mem_cons_self s h
    rw [e, M.bind_ret]
    cases hg : g x s with
    | go s' => exact loopR_ret I (k s' hg) fun y hy => hf y (List.mem_cons_of_mem _ hy)
    | brk s' => rfl
    | back r => rfl
theorem loopR_map {f : β → σ → M (Fw σ ρ)} {h : α → β} : ∀ (xs : List α) (s : σ), loopR f (xs.map h) s = loopR (fun x => f (h x)) xs s
  | [], s => rfl
  | x :: xs, s => by
    show (f (h x) s >>= _) = (f (h x) s >>= _)
    congr 1; funext o
    cases o with
    | go s' => exact loopR_map xs s'
    | _ => rfl
theorem loopP_append {f : α → σ → Fw σ ρ} : ∀ {xs ys : List α} {s s' : σ}, (∀ x s t, f x s ≠ .brk t) → loopP f xs s = .go s' → loopP f (xs ++ ys) s = loopP f ys s'
  | [], ys, s, s', _, h => by
    have h : Fw.go s = .go s' := h
    cases h; rfl
  | x :: xs, ys, s, s', nb, h => by
    have e : ∀ zs, loopP f (x :: zs) s = match f x s with
      | .go s' => loopP f zs s'
      | .brk s' => .go s'
      | .back r => .back r := fun _ => rfl
    rw [List.cons_append, e]
    rw [e] at h
    cases hg : f x s with
    | go t => rw [hg] at h; exact loopP_append nb h
    | brk t => exact absurd hg (nb x s t)
    | back r => rw [hg] at h; cases h
theorem enumT_append : ∀ (k : Nat) (xs ys : List α), enumT k (xs ++ ys) = enumT k xs ++ enumT (k + xs.length) ys
  | k, [], ys => by simp [enumT]
  | k, x :: xs, ys => by
    show ((k : Int), x) :: enumT (k + 1) (xs ++ ys) = ((k : Int), x) :: (enumT (k + 1) xs ++ _)
    rw [enumT_append (k + 1) xs ys, List.length_cons]
    congr 3; omega
theorem enumT_length : ∀ (k : Nat) (xs : List α), (enumT k xs).length = xs.length
  | k, [] => rfl
  | k, x :: xs => by show (enumT (k + 1) xs).length + 1 = _; rw [enumT_length]; rfl
theorem enumT_get (d : α) : ∀ (k : Nat) (xs : List α) {p : Int × α}, p ∈ enumT k xs → (k : Int) ≤ p.1 ∧ p.1 < k + xs.length ∧ xs.getD (p.1 - k).toNat d = p.2 ∧ p.2 ∈ xs
  | k, [], p, h => absurd h (by simp [enumT])
  | k, x :: xs, p, h => by
    rcases List.mem_cons.mp (show p ∈ ((k : Int), x) :: enumT (k + 1) xs from h) with rfl | h
    · simp; omega
    · obtain ⟨h1, h2, h3, h4⟩ := enumT_get d (k + 1) xs h
      refine ⟨by omega, by simp only [List.length_cons]; omega, ?_, List.mem_cons_of_mem _ h4⟩
      have e : (p.1 - (k : Int)).toNat = (p.1 - ((k + 1 : Nat) : Int)).toNat + 1 := by omega
      rw [e, List.getD_cons_succ]; exact h3
theorem range_enum (xs : List α) : (List.range xs.length).map (fun i : Nat => (i : Int)) = (enumT 0 xs).map (·.1) := by
  have gen : ∀ (k : Nat) (xs : List α), (enumT k xs).map (·.1) = (List.range xs.length).map fun i : Nat => ((k + i : Nat) : Int) := by
    intro k xs
    induction xs generalizing k with
    | nil => rfl
    | cons x xs ih =>
      show (k : Int) :: (enumT (k + 1) xs).map (·.1) = _
      rw [ih, List.length_cons, List.range_succ_eq_map, List.map_cons, List.map_map]
      congr 1
      exact List.map_congr_left fun i _ => by show ((k + 1 + i : Nat) : Int) = ((k + (i + 1) : Nat) : Int); congr 1; omega
  rw [gen 0 xs]
  exact List.map_congr_left fun i _ => by simp
theorem getD_map' {f : α → β} (xs : List α) (i : Nat) (d : α) : (xs.map f).getD i (f d) = f (xs.getD i d) := by
  rw [List.getD_eq_getElem?_getD, List.getD_eq_getElem?_getD, List.getElem?_map]
  cases xs[i]? <;> rfl
theorem getD_mem {xs : List α} {i : Nat} (d : α) (h : i < xs.length) : xs.getD i d ∈ xs := by
  rw [List.getD_eq_getElem?_getD, List.getElem?_eq_getElem h]
  exact List.getElem_mem h
theorem atI_ret {xs : List α} {i : Int} (d : α) (h0 : 0 ≤ i) (h1 : i < xs.length) : atI xs i = some (xs.getD i.toNat d) := by
  have h2 : i.toNat < xs.length := by omega
  unfold atI ixN
  rw [if_pos h0, if_pos h1]
  show xs[i.toNat]? = _
  rw [List.getD_eq_getElem?_getD, List.getElem?_eq_getElem h2]
  rfl
end
end DL

set_option Elab.async false
set_option linter.all false
set_option maxRecDepth 100000
set_option maxHeartbeats 0
namespace K74
open PySem PySem.Spec L2 DL
open PyProof.Rows hiding St
/-! ### texts of the program -/
def s_never : Str := "never"
def s_forms : Str := "forms"
def s_length : Str := "length"
def s_form : Str := "form"
def s_tie : Str := "tie"
def s_row : Str := "row"
def s_partner : Str := "partner"
def s_left : Str := "left"
def s_roots : Str := "roots"
def s_turned : Str := "turned"
def s_down : Str := "down"
def s_chain : Str := "chain"
def s_clash : Str := "clash"
def s_one : Str := "one"
def s_step : Str := "step"
def s_structure : Str := "structure"
def s_general : Str := "general"
def s_less : Str := "less"
def s_case : Str := "case"
def s_number : Str := "number"
def s_xyz : Str := "xyz"
/-! ### the defs of the text -/
def topS (i : Nat) : Stmt := PySem.Challenge.pw_wordkinds_k74_forms_as_structures.main.body.getD i (.Pass ⟨0, 0, 0, 0⟩)
abbrev s_T_partners : Stmt := topS 1
abbrev s_T_left_out : Stmt := topS 2
abbrev s_T_agreed : Stmt := topS 3
abbrev s_T_fits_on : Stmt := topS 4
abbrev s_T_agreed_fault : Stmt := topS 5
abbrev s_T_count_agreed : Stmt := topS 6
abbrev s_T_agrees : Stmt := topS 7
abbrev s_T_goes : Stmt := topS 9
abbrev s_T_all_nodes : Stmt := topS 10
abbrev s_T_clash_of : Stmt := topS 11
abbrev s_T_steps_from : Stmt := topS 12
abbrev s_T_needed_steps : Stmt := topS 13
abbrev s_T_made_one : Stmt := topS 14
abbrev s_T_merged_features : Stmt := topS 15
abbrev s_T_pairs_by : Stmt := topS 16
abbrev s_T_more_general : Stmt := topS 17
abbrev s_T_made_one_fault : Stmt := topS 18
abbrev s_T_is_structure : Stmt := topS 19
abbrev s_T_law_state : Stmt := topS 21
abbrev s_T_law_take : Stmt := topS 22
abbrev s_T_law_structure : Stmt := topS 23
abbrev s_T_law : Stmt := topS 24
abbrev N_partners : List Str := ["words", "left", "word", "form", "tie", "far", "one", "other", "feature", "at"]
theorem sc_partners : FnScope N_partners ["words", "left", "word", "form", "tie"] (defScope s_T_partners) := ⟨rfl, rfl, rfl, by decide +kernel, rfl, by decide +kernel, by decide +kernel⟩
abbrev N_left_out : List Str := ["words", "ties", "left", "rows", "turning", "forms", "at", "tie", "word", "form", "one"]
theorem sc_left_out : FnScope N_left_out ["words", "ties"] (defScope s_T_left_out) := ⟨rfl, rfl, rfl, by decide +kernel, rfl, by decide +kernel, by decide +kernel⟩
abbrev N_agreed : List Str := ["words", "ties", "empty", "chosen", "word", "left", "rows", "form"]
theorem sc_agreed : FnScope N_agreed ["words", "ties"] (defScope s_T_agreed) := ⟨rfl, rfl, rfl, by decide +kernel, rfl, by decide +kernel, by decide +kernel⟩
abbrev N_fits_on : List Str := ["words", "ties", "chosen", "kept", "left", "rows", "lot", "word", "form"]
theorem sc_fits_on : FnScope N_fits_on ["words", "ties", "chosen"] (defScope s_T_fits_on) := ⟨rfl, rfl, rfl, by decide +kernel, rfl, by decide +kernel, by decide +kernel⟩
abbrev N_agreed_fault : List Str := ["words", "ties", "told", "left", "place", "word", "form", "at", "forms", "one", "other", "feature", "lot"]
theorem sc_agreed_fault : FnScope N_agreed_fault ["words", "ties", "told"] (defScope s_T_agreed_fault) := ⟨rfl, rfl, rfl, by decide +kernel, rfl, by decide +kernel, by decide +kernel⟩
abbrev N_count_agreed : List Str := ["words", "ties", "rows", "word", "forms", "more", "row", "form", "tie"]
theorem sc_count_agreed : FnScope N_count_agreed ["words", "ties"] (defScope s_T_count_agreed) := ⟨rfl, rfl, rfl, by decide +kernel, rfl, by decide +kernel, by decide +kernel⟩
abbrev N_agrees : List Str := ["words", "row", "tie", "one", "other", "feature"]
theorem sc_agrees : FnScope N_agrees ["words", "row", "tie"] (defScope s_T_agrees) := ⟨rfl, rfl, rfl, by decide +kernel, rfl, by decide +kernel, by decide +kernel⟩
abbrev N_goes : List Str := ["one", "node", "feature", "name", "other"]
theorem sc_goes : FnScope N_goes ["one", "node", "feature"] (defScope s_T_goes) := ⟨rfl, rfl, rfl, by decide +kernel, rfl, by decide +kernel, by decide +kernel⟩
abbrev N_all_nodes : List Str := ["both", "many", "found", "atom", "rows", "name", "node"]
theorem sc_all_nodes : FnScope N_all_nodes ["both"] (defScope s_T_all_nodes) := ⟨rfl, rfl, rfl, by decide +kernel, rfl, by decide +kernel, by decide +kernel⟩
abbrev N_clash_of : List Str := ["nodes", "one", "other", "first", "second"]
theorem sc_clash_of : FnScope N_clash_of ["nodes", "one", "other"] (defScope s_T_clash_of) := ⟨rfl, rfl, rfl, by decide +kernel, rfl, by decide +kernel, by decide +kernel⟩
abbrev N_steps_from : List Str := ["nodes", "many", "pairs", "steps", "known", "at", "fresh", "before", "one", "other", "name", "node", "there", "pair", "step"]
theorem sc_steps_from : FnScope N_steps_from ["nodes", "many"] (defScope s_T_steps_from) := ⟨rfl, rfl, rfl, by decide +kernel, rfl, by decide +kernel, by decide +kernel⟩
abbrev N_needed_steps : List Str := ["steps", "last", "wanted", "at", "numbers", "found", "step", "part", "place"]
theorem sc_needed_steps : FnScope N_needed_steps ["steps", "last"] (defScope s_T_needed_steps) := ⟨rfl, rfl, rfl, by decide +kernel, rfl, by decide +kernel, by decide +kernel⟩
abbrev N_made_one : List Str := ["one", "other", "nodes", "groups", "node", "order", "at", "numbers", "rows", "group", "firsts", "pairs", "steps", "atoms", "named", "left", "right", "name", "there", "place"]
theorem sc_made_one : FnScope N_made_one ["one", "other"] (defScope s_T_made_one) := ⟨rfl, rfl, rfl, by decide +kernel, rfl, by decide +kernel, by decide +kernel⟩
abbrev N_merged_features : List Str := ["nodes", "groups", "group", "found", "node", "name", "there"]
theorem sc_merged_features : FnScope N_merged_features ["nodes", "groups", "group"] (defScope s_T_merged_features) := ⟨rfl, rfl, rfl, by decide +kernel, rfl, by decide +kernel, by decide +kernel⟩
abbrev N_pairs_by : List Str := ["nodes", "many", "steps", "pairs", "place", "step", "pair", "part", "ends", "left", "right"]
theorem sc_pairs_by : FnScope N_pairs_by ["nodes", "many", "steps"] (defScope s_T_pairs_by) := ⟨rfl, rfl, rfl, by decide +kernel, rfl, by decide +kernel, by decide +kernel⟩
abbrev N_more_general : List Str := ["one", "other", "found", "waiting", "node", "there", "name", "below", "target"]
theorem sc_more_general : FnScope N_more_general ["one", "other"] (defScope s_T_more_general) := ⟨rfl, rfl, rfl, by decide +kernel, rfl, by decide +kernel, by decide +kernel⟩
abbrev N_made_one_fault : List Str := ["one", "other", "told", "nodes", "rows", "due", "pairs", "side", "part"]
theorem sc_made_one_fault : FnScope N_made_one_fault ["one", "other", "told"] (defScope s_T_made_one_fault) := ⟨rfl, rfl, rfl, by decide +kernel, rfl, by decide +kernel, by decide +kernel⟩
abbrev N_is_structure : List Str := ["rows", "atom", "named", "names", "inside", "name", "node"]
theorem sc_is_structure : FnScope N_is_structure ["rows"] (defScope s_T_is_structure) := ⟨rfl, rfl, rfl, by decide +kernel, rfl, by decide +kernel, by decide +kernel⟩
abbrev N_law_structure : List Str := ["form", "kept", "named", "rows", "feature", "k"]
theorem sc_law_structure : FnScope N_law_structure ["form", "kept"] (defScope s_T_law_structure) := ⟨rfl, rfl, rfl, by decide +kernel, rfl, by decide +kernel, by decide +kernel⟩
abbrev N_law : List Str := ["script", "state", "words", "feature", "ties", "told", "good", "one", "other", "word", "answer", "whole", "part", "k", "left", "right"]
theorem sc_law : FnScope N_law ["script"] (defScope s_T_law) := ⟨rfl, rfl, rfl, by decide +kernel, rfl, by decide +kernel, by decide +kernel⟩
abbrev N_law_take : List Str := ["state", "most", "cells", "at", "cell", "mixed"]
theorem sc_law_take : FnScope N_law_take ["state", "most"] (defScope s_T_law_take) := ⟨rfl, rfl, rfl, by decide +kernel, rfl, by decide +kernel, by decide +kernel⟩
abbrev N_law_state : List Str := ["script", "cells", "cell"]
theorem sc_law_state : FnScope N_law_state ["script"] (defScope s_T_law_state) := ⟨rfl, rfl, rfl, by decide +kernel, rfl, by decide +kernel, by decide +kernel⟩
/-! ### the mirrors -/
def b_partners (n : Nat) : DS := mSeq (mAsg (gT 3 (gsCons (gV 6) (gsCons (gV 7) (gsCons (gV 8) (gsNil))))) (mVar 4)) (mSeq (mSetV 5 (mIfE (mBinT dEq (mVarB 2) (mVarB 6)) (mVar 7) (mVar 6))) (mRet (mLc [9] (iOver (mBin dIx (mVarB 1) (mVarB 5))) (gV 9) (mBinT dEq (mBin dIx (mBin dIx (mBin dIx (mVarB 0) (mVarB 5)) (mVarB 9)) (mVarB 8)) (mBin dIx (mBin dIx (mBin dIx (mVarB 0) (mVarB 2)) (mVarB 3)) (mVarB 8))) (mVar 9))))
def f_partners : Nat → List D → M D
  | 0 => fun _ => .fail
  | n + 1 => fnM 10 [true, true, true, true, false] (b_partners n)
def b_left_out (n : Nat) : DS := mSeq (mSetO 2 (mLc [5] (iOver (mVarB 0)) (gV 5) (mYes) (mRgL1 .lst (mCall dLen (aCons (mVarB 5) (aNil)))))) (mSeq (mSetO 3 (mLst (aNil))) (mSeq (mSetV 4 (mC (.bl true))) (mForget [6, 7, 8, 9] (mSeq (mWhile (mTru (mVarB 4)) (mSeq (mSetV 4 (mC (.bl false))) (mForget [6, 7, 8, 9] (mSeq (mFor (iEnumD (mVar 1)) (gT 2 (gsCons (gV 6) (gsCons (gV 7) (gsNil)))) (mForget [8, 9] (mSeq (mFor (iOver (mSl dSl (mVarB 7) (oNone) (oSome (mC (.int 2))))) (gV 8) (mForget [9] (mSeq (mFor (iOver (mCall dList (aCons (mBin dIx (mVarB 2) (mVarB 8)) (aNil)))) (gV 9) (mSeq (mIf (mNot (mTru (mCall (f_partners n) (aCons (mVarB 0) (aCons (mVarB 2) (aCons (mVarB 8) (aCons (mVarB 9) (aCons (mVar 7) (aNil))))))))) (mSeq (mPutL 2 (mVarB 8) (mLc [10] (iOver (mBin dIx (mVarB 2) (mVarB 8))) (gV 10) (mBinT dNe (mVarB 10) (mVarB 9)) (mVar 10))) (mSeq (mAppend 3 (mTup (aCons (mVar 8) (aCons (mVar 9) (aCons (mVar 6) (aNil)))))) (mSeq (mSetV 4 (mC (.bl true))) (mForget [] mPass)))) (mForget [] mPass)) (mForget [9] mPass))) (mForget [8, 9] mPass)))) (mForget [6, 7, 8, 9] mPass)))) (mForget [6, 7, 8, 9] mPass)))) 100) (mFrz 3 (mFrz 2 (mRet (mTup (aCons (mVar 2) (aCons (mVar 3) (aNil)))))))))))
def f_left_out : Nat → List D → M D
  | 0 => fun _ => .fail
  | n + 1 => fnM 11 [true, false] (b_left_out n)
def b_fits_on (n : Nat) : DS := mSeq (mSetV 3 (mBin dAdd (mLc [7, 8] (iEnumD (mVarB 2)) (gT 2 (gsCons (gV 7) (gsCons (gV 8) (gsNil)))) (mYes) (mLst (aCons (mBin dIx (mBin dIx (mVarB 0) (mVarB 7)) (mVarB 8)) (aNil)))) (mSl dSl (mVarB 0) (oSome (mCall dLen (aCons (mVarB 2) (aNil)))) (oNone)))) (mSeq (mAsg (gT 2 (gsCons (gV 4) (gsCons (gV 5) (gsNil)))) (mCall (f_left_out n) (aCons (mVarB 3) (aCons (mVar 1) (aNil))))) (mRet (mCall dAll (aCons (mLc [6] (iOver (mVarB 4)) (gV 6) (mYes) (mBin dGt (mCall dLen (aCons (mVarB 6) (aNil))) (mC (.int 0)))) (aNil)))))
def f_fits_on : Nat → List D → M D
  | 0 => fun _ => .fail
  | n + 1 => fnM 9 [true, false, true] (b_fits_on n)
def b_agreed (n : Nat) : DS := mSeq (mAsg (gT 2 (gsCons (gV 5) (gsCons (gV 6) (gsNil)))) (mCall (f_left_out n) (aCons (mVarB 0) (aCons (mVar 1) (aNil))))) (mSeq (mSetV 2 (mLc [4] (iRg1 (mCall dLen (aCons (mVarB 0) (aNil)))) (gV 4) (mNot (mTru (mBin dIx (mVarB 5) (mVarB 4)))) (mVar 4))) (mSeq (mIf (mTru (mVarB 2)) (mRet (mTup (aCons (mC (.str s_never)) (aCons (mVar 6) (aNil))))) (mPass)) (mSeq (mSetO 3 (mLst (aNil))) (mForget [4, 7] (mSeq (mFor (iRg1 (mCall dLen (aCons (mVarB 0) (aNil)))) (gV 4) (mForget [7] (mSeq (mFor (iOver (mBin dIx (mVarB 5) (mVarB 4))) (gV 7) (mSeq (mIf (mTru (mCall (f_fits_on n) (aCons (mVarB 0) (aCons (mVar 1) (aCons (mBin dAdd (mVarB 3) (mLst (aCons (mVar 7) (aNil)))) (aNil)))))) (mSeq (mAppend 3 (mVar 7)) (mForget [7] (mBrk))) (mForget [] mPass)) (mForget [7] mPass))) (mForget [4, 7] mPass)))) (mFrz 3 (mRet (mTup (aCons (mC (.str s_forms)) (aCons (mVar 3) (aNil)))))))))))
def f_agreed : Nat → List D → M D
  | 0 => fun _ => .fail
  | n + 1 => fnM 8 [true, false] (b_agreed n)
def b_agreed_fault (n : Nat) : DS := mSeq (mIf (mBinT dEq (mBin dIx (mVarB 2) (mC (.int 0))) (mC (.str s_forms))) (mSeq (mIf (mBinT dNe (mCall dLen (aCons (mBin dIx (mVarB 2) (mC (.int 1))) (aNil))) (mCall dLen (aCons (mVarB 0) (aNil)))) (mRet (mTup (aCons (mC (.str s_length)) (aNil)))) (mPass)) (mForget [5, 6] (mSeq (mFor (iEnumD (mBin dIx (mVarB 2) (mC (.int 1)))) (gT 2 (gsCons (gV 5) (gsCons (gV 6) (gsNil)))) (mSeq (mIf (mNot (mTE (mChain dLe dLt (mC (.int 0)) (mVarB 6) (mCall dLen (aCons (mBin dIx (mVarB 0) (mVarB 5)) (aNil)))))) (mRet (mTup (aCons (mC (.str s_form)) (aCons (mVar 5) (aNil))))) (mPass)) (mForget [5, 6] mPass))) (mForget [7, 9, 10, 11] (mSeq (mFor (iEnumD (mVar 1)) (gT 2 (gsCons (gV 7) (gsCons (gT 3 (gsCons (gV 9) (gsCons (gV 10) (gsCons (gV 11) (gsNil))))) (gsNil)))) (mSeq (mIf (mBinT dNe (mBin dIx (mBin dIx (mBin dIx (mVarB 0) (mVarB 9)) (mBin dIx (mBin dIx (mVarB 2) (mC (.int 1))) (mVarB 9))) (mVarB 11)) (mBin dIx (mBin dIx (mBin dIx (mVarB 0) (mVarB 10)) (mBin dIx (mBin dIx (mVarB 2) (mC (.int 1))) (mVarB 10))) (mVarB 11))) (mRet (mTup (aCons (mC (.str s_tie)) (aCons (mVar 7) (aNil))))) (mPass)) (mForget [7, 9, 10, 11] mPass))) (mRet (mC .non))))))) (mForget [5, 6, 7, 9, 10, 11] mPass)) (mSeq (mSetO 3 (mLc [8] (iOver (mVarB 0)) (gV 8) (mYes) (mRgL1 .lst (mCall dLen (aCons (mVarB 8) (aNil)))))) (mForget [4, 5, 6, 7] (mSeq (mFor (iEnumD (mBin dIx (mVarB 2) (mC (.int 1)))) (gT 2 (gsCons (gV 4) (gsCons (gT 3 (gsCons (gV 5) (gsCons (gV 6) (gsCons (gV 7) (gsNil))))) (gsNil)))) (mSeq (mIf (mOr (mNot (mTE (mChain dLe dLt (mC (.int 0)) (mVarB 5) (mCall dLen (aCons (mVarB 0) (aNil)))))) (mOr (mBinT dNotInX (mVarB 6) (mBin dIx (mVarB 3) (mVarB 5))) (mOr (mNot (mTE (mChain dLe dLt (mC (.int 0)) (mVarB 7) (mCall dLen (aCons (mVarB 1) (aNil)))))) (mBinT dNotInX (mVarB 5) (mSl dSl (mBin dIx (mVarB 1) (mVarB 7)) (oNone) (oSome (mC (.int 2)))))))) (mRet (mTup (aCons (mC (.str s_row)) (aCons (mVar 4) (aNil))))) (mPass)) (mSeq (mIf (mTru (mCall (f_partners n) (aCons (mVarB 0) (aCons (mVarB 3) (aCons (mVarB 5) (aCons (mVarB 6) (aCons (mBin dIx (mVarB 1) (mVarB 7)) (aNil)))))))) (mRet (mTup (aCons (mC (.str s_partner)) (aCons (mVar 4) (aNil))))) (mPass)) (mSeq (mPutL 3 (mVarB 5) (mLc [9] (iOver (mBin dIx (mVarB 3) (mVarB 5))) (gV 9) (mBinT dNe (mVarB 9) (mVarB 6)) (mVar 9))) (mForget [4, 5, 6, 7] mPass))))) (mRet (mIfE (mTru (mCall dAny (aCons (mLc [12] (iOver (mVarB 3)) (gV 12) (mYes) (mBin dEq (mCall dLen (aCons (mVarB 12) (aNil))) (mC (.int 0)))) (aNil)))) (mC .non) (mTup (aCons (mC (.str s_left)) (aNil))))))))
def f_agreed_fault : Nat → List D → M D
  | 0 => fun _ => .fail
  | n + 1 => fnM 13 [true, false, true] (b_agreed_fault n)
def b_agrees (n : Nat) : DS := mSeq (mAsg (gT 3 (gsCons (gV 3) (gsCons (gV 4) (gsCons (gV 5) (gsNil))))) (mVar 2)) (mSeq (mIf (mOr (mBinT dGe (mVarB 3) (mCall dLen (aCons (mVarB 1) (aNil)))) (mBinT dGe (mVarB 4) (mCall dLen (aCons (mVarB 1) (aNil))))) (mRet (mC (.bl true))) (mPass)) (mRet (mBin dEq (mBin dIx (mBin dIx (mBin dIx (mVarB 0) (mVarB 3)) (mBin dIx (mVarB 1) (mVarB 3))) (mVarB 5)) (mBin dIx (mBin dIx (mBin dIx (mVarB 0) (mVarB 4)) (mBin dIx (mVarB 1) (mVarB 4))) (mVarB 5)))))
def f_agrees : Nat → List D → M D
  | 0 => fun _ => .fail
  | n + 1 => fnM 6 [true, true, false] (b_agrees n)
def b_count_agreed (n : Nat) : DS := mSeq (mSetV 2 (mLst (aCons (mLst (aNil)) (aNil)))) (mForget [3, 4, 5, 6, 7] (mSeq (mFor (iEnumD (mVar 0)) (gT 2 (gsCons (gV 3) (gsCons (gV 4) (gsNil)))) (mSeq (mSetO 5 (mLst (aNil))) (mForget [6, 7] (mSeq (mFor (iOver (mVar 2)) (gV 6) (mForget [7] (mSeq (mFor (iRg1 (mCall dLen (aCons (mVarB 4) (aNil)))) (gV 7) (mSeq (mIf (mTru (mCall dAll (aCons (mLc [8] (iOver (mVarB 1)) (gV 8) (mYes) (mCall (f_agrees n) (aCons (mVarB 0) (aCons (mBin dAdd (mVarB 6) (mLst (aCons (mVar 7) (aNil)))) (aCons (mVar 8) (aNil)))))) (aNil)))) (mSeq (mAppend 5 (mBin dAdd (mVarB 6) (mLst (aCons (mVar 7) (aNil))))) (mForget [] mPass)) (mForget [] mPass)) (mForget [7] mPass))) (mForget [6, 7] mPass)))) (mFrz 5 (mSeq (mSetV 2 (mVar 5)) (mForget [3, 4, 5, 6, 7] mPass))))))) (mRet (mCall dLen (aCons (mVarB 2) (aNil))))))
def f_count_agreed : Nat → List D → M D
  | 0 => fun _ => .fail
  | n + 1 => fnM 9 [false, true] (b_count_agreed n)
def b_goes (n : Nat) : DS := mForget [3, 4] (mSeq (mFor (iOver (mBin dIx (mBin dIx (mVarB 0) (mVarB 1)) (mC (.int 1)))) (gT 2 (gsCons (gV 3) (gsCons (gV 4) (gsNil)))) (mSeq (mIf (mBinT dEq (mVarB 3) (mVarB 2)) (mRet (mVar 4)) (mPass)) (mForget [3, 4] mPass))) (mRet (mC .non)))
def f_goes : Nat → List D → M D
  | 0 => fun _ => .fail
  | n + 1 => fnM 5 [true, true, true] (b_goes n)
def b_all_nodes (n : Nat) : DS := mSeq (mSetV 1 (mCall dLen (aCons (mBin dIx (mVarB 0) (mC (.int 0))) (aNil)))) (mSeq (mSetO 2 (mCall dList (aCons (mBin dIx (mVarB 0) (mC (.int 0))) (aNil)))) (mForget [3, 4] (mSeq (mFor (iOver (mBin dIx (mVarB 0) (mC (.int 1)))) (gT 2 (gsCons (gV 3) (gsCons (gV 4) (gsNil)))) (mSeq (mAppend 2 (mTup (aCons (mVar 3) (aCons (mCall dTuple (aCons (mLc [5, 6] (iOver (mVarB 4)) (gT 2 (gsCons (gV 5) (gsCons (gV 6) (gsNil)))) (mYes) (mTup (aCons (mVar 5) (aCons (mBin dAdd (mVarB 6) (mVarB 1)) (aNil))))) (aNil))) (aNil))))) (mForget [3, 4] mPass))) (mFrz 2 (mRet (mVar 2))))))
def f_all_nodes : Nat → List D → M D
  | 0 => fun _ => .fail
  | n + 1 => fnM 7 [true] (b_all_nodes n)
def b_clash_of (n : Nat) : DS := mSeq (mPar 3 4 (aCons (mBin dIx (mVarB 0) (mVarB 1)) (aCons (mBin dIx (mVarB 0) (mVarB 2)) (aNil)))) (mSeq (mIf (mAnd (mBinT dIsNot (mBin dIx (mVarB 3) (mC (.int 0))) (mC .non)) (mAnd (mBinT dIsNot (mBin dIx (mVarB 4) (mC (.int 0))) (mC .non)) (mBinT dNe (mBin dIx (mVarB 3) (mC (.int 0))) (mBin dIx (mVarB 4) (mC (.int 0)))))) (mRet (mC (.bl true))) (mPass)) (mRet (mOrV (mAndV (mBin dIsNot (mBin dIx (mVarB 3) (mC (.int 0))) (mC .non)) (mBin dGt (mCall dLen (aCons (mBin dIx (mVarB 4) (mC (.int 1))) (aNil))) (mC (.int 0)))) (mAndV (mBin dIsNot (mBin dIx (mVarB 4) (mC (.int 0))) (mC .non)) (mBin dGt (mCall dLen (aCons (mBin dIx (mVarB 3) (mC (.int 1))) (aNil))) (mC (.int 0)))))))
def f_clash_of : Nat → List D → M D
  | 0 => fun _ => .fail
  | n + 1 => fnM 5 [true, true, true] (b_clash_of n)
def b_steps_from (n : Nat) : DS := mSeq (mSetO 2 (mLst (aCons (mTup (aCons (mC (.int 0)) (aCons (mVar 1) (aNil)))) (aNil)))) (mSeq (mSetO 3 (mLst (aCons (mTup (aCons (mC (.str s_roots)) (aNil))) (aNil)))) (mSeq (mSetO 4 (mDispN (mTup (aCons (mC (.int 0)) (aCons (mVar 1) (aNil)))) (mC (.int 0)))) (mSeq (mSetV 5 (mC (.int 0))) (mForget [6, 7, 8, 9, 10, 11, 12, 13, 14] (mSeq (mWhile (mBinT dLt (mVarB 5) (mCall dLen (aCons (mVarB 2) (aNil)))) (mSeq (mAsg (gT 2 (gsCons (gV 8) (gsCons (gV 9) (gsNil)))) (mBin dIx (mVarB 2) (mVarB 5))) (mSeq (mSetO 6 (mLst (aCons (mTup (aCons (mTup (aCons (mVar 9) (aCons (mVar 8) (aNil)))) (aCons (mTup (aCons (mC (.str s_turned)) (aCons (mVar 5) (aNil)))) (aNil)))) (aNil)))) (mForget [10, 11, 12] (mSeq (mFor (iOver (mBin dIx (mBin dIx (mVarB 0) (mVarB 8)) (mC (.int 1)))) (gT 2 (gsCons (gV 10) (gsCons (gV 11) (gsNil)))) (mSeq (mSetV 12 (mCall (f_goes n) (aCons (mVarB 0) (aCons (mVarB 9) (aCons (mVarB 10) (aNil)))))) (mSeq (mIf (mBinT dIsNot (mVarB 12) (mC .non)) (mSeq (mAppend 6 (mTup (aCons (mTup (aCons (mVar 11) (aCons (mVar 12) (aNil)))) (aCons (mTup (aCons (mC (.str s_down)) (aCons (mVar 5) (aCons (mVar 10) (aNil))))) (aNil))))) (mForget [] mPass)) (mForget [] mPass)) (mForget [10, 11, 12] mPass)))) (mForget [7] (mSeq (mFor (iRg1 (mBin dAdd (mVarB 5) (mC (.int 1)))) (gV 7) (mSeq (mIf (mBinT dEq (mBin dIx (mBin dIx (mVarB 2) (mVarB 7)) (mC (.int 1))) (mVarB 8)) (mSeq (mAppend 6 (mTup (aCons (mTup (aCons (mBin dIx (mBin dIx (mVarB 2) (mVarB 7)) (mC (.int 0))) (aCons (mVar 9) (aNil)))) (aCons (mTup (aCons (mC (.str s_chain)) (aCons (mVar 7) (aCons (mVar 5) (aNil))))) (aNil))))) (mForget [] mPass)) (mForget [] mPass)) (mSeq (mIf (mBinT dEq (mBin dIx (mBin dIx (mVarB 2) (mVarB 7)) (mC (.int 0))) (mVarB 9)) (mSeq (mAppend 6 (mTup (aCons (mTup (aCons (mVar 8) (aCons (mBin dIx (mBin dIx (mVarB 2) (mVarB 7)) (mC (.int 1))) (aNil)))) (aCons (mTup (aCons (mC (.str s_chain)) (aCons (mVar 5) (aCons (mVar 7) (aNil))))) (aNil))))) (mForget [] mPass)) (mForget [] mPass)) (mForget [7] mPass)))) (mFrz 6 (mForget [13, 14] (mSeq (mFor (iOver (mVar 6)) (gT 2 (gsCons (gV 13) (gsCons (gV 14) (gsNil)))) (mSeq (mIf (mAnd (mBinT (dInN true) (mVarB 13) (mVarB 4)) (mBinT dNe (mBin dIx (mVarB 13) (mC (.int 0))) (mBin dIx (mVarB 13) (mC (.int 1))))) (mSeq (mPutN 4 (mVarB 13) (mCall dLen (aCons (mVarB 2) (aNil)))) (mSeq (mAppend 2 (mVar 13)) (mSeq (mAppend 3 (mVar 14)) (mForget [] mPass)))) (mForget [] mPass)) (mForget [13, 14] mPass))) (mSeq (mSetV 5 (mBin dAdd (mVarB 5) (mC (.int 1)))) (mForget [6, 7, 8, 9, 10, 11, 12, 13, 14] mPass))))))))))) 100) (mFrz 3 (mFrz 2 (mRet (mTup (aCons (mVar 2) (aCons (mVar 3) (aNil))))))))))))
def f_steps_from : Nat → List D → M D
  | 0 => fun _ => .fail
  | n + 1 => fnM 15 [true, false] (b_steps_from n)
def b_needed_steps (n : Nat) : DS := mSeq (mSetO 2 (mDispK (mVarB 1) (mC (.bl true)))) (mForget [3, 7] (mSeq (mFor (iRg3 (mVarB 1) (mNeg (mC (.int 1))) (mNeg (mC (.int 1)))) (gV 3) (mSeq (mIf (mBinT dInX (mVarB 3) (mVarB 2)) (mForget [7] (mSeq (mFor (iOver (mSl dSl (mBin dIx (mVarB 0) (mVarB 3)) (oSome (mC (.int 1))) (oNone))) (gV 7) (mSeq (mIf (mOr (mBinT dInX (mBin dIx (mBin dIx (mVarB 0) (mVarB 3)) (mC (.int 0))) (mTup (aCons (mC (.str s_turned)) (aCons (mC (.str s_chain)) (aNil))))) (mAnd (mBinT dEq (mBin dIx (mBin dIx (mVarB 0) (mVarB 3)) (mC (.int 0))) (mC (.str s_down))) (mBinT dEq (mVarB 7) (mBin dIx (mBin dIx (mVarB 0) (mVarB 3)) (mC (.int 1)))))) (mSeq (mPutD 2 (mVarB 7) (mC (.bl true))) (mForget [] mPass)) (mForget [] mPass)) (mForget [7] mPass))) (mForget [7] mPass))) (mForget [7] mPass)) (mForget [3, 7] mPass))) (mSeq (mSetV 4 (mDc [8, 3] (iEnumD (mCall dSortedK (aCons (mVarB 2) (aNil)))) (gT 2 (gsCons (gV 8) (gsCons (gV 3) (gsNil)))) (mYes) (mVarB 3) (mVar 8))) (mSeq (mSetO 5 (mLst (aNil))) (mForget [3, 6] (mSeq (mFor (iOver (mCall dSortedK (aCons (mVarB 2) (aNil)))) (gV 3) (mSeq (mSetV 6 (mBin dIx (mVarB 0) (mVarB 3))) (mSeq (mIf (mBinT dEq (mBin dIx (mVarB 6) (mC (.int 0))) (mC (.str s_down))) (mSeq (mAppend 5 (mTup (aCons (mC (.str s_down)) (aCons (mBin dIx (mVarB 4) (mBin dIx (mVarB 6) (mC (.int 1)))) (aCons (mBin dIx (mVarB 6) (mC (.int 2))) (aNil)))))) (mForget [] mPass)) (mSeq (mAppend 5 (mBin dAdd (mTup (aCons (mBin dIx (mVarB 6) (mC (.int 0))) (aNil))) (mCall dTuple (aCons (mLc [7] (iOver (mSl dSl (mVarB 6) (oSome (mC (.int 1))) (oNone))) (gV 7) (mYes) (mBin dIx (mVarB 4) (mVarB 7))) (aNil))))) (mForget [] mPass))) (mForget [3, 6] mPass)))) (mFrz 5 (mRet (mVar 5)))))))))
def f_needed_steps : Nat → List D → M D
  | 0 => fun _ => .fail
  | n + 1 => fnM 9 [true, true] (b_needed_steps n)
def b_merged_features (n : Nat) : DS := mSeq (mSetO 3 (mNewK)) (mForget [4, 5, 6] (mSeq (mFor (iRg1 (mCall dLen (aCons (mVarB 0) (aNil)))) (gV 4) (mSeq (mIf (mBinT dEq (mBin dIx (mVarB 1) (mVarB 4)) (mVarB 2)) (mForget [5, 6] (mSeq (mFor (iOver (mBin dIx (mBin dIx (mVarB 0) (mVarB 4)) (mC (.int 1)))) (gT 2 (gsCons (gV 5) (gsCons (gV 6) (gsNil)))) (mSeq (mPutD 3 (mVarB 5) (mBin dIx (mVarB 1) (mVarB 6))) (mForget [5, 6] mPass))) (mForget [5, 6] mPass))) (mForget [5, 6] mPass)) (mForget [4, 5, 6] mPass))) (mRet (mSortIt 3))))
def f_merged_features : Nat → List D → M D
  | 0 => fun _ => .fail
  | n + 1 => fnM 7 [true, true, true] (b_merged_features n)
def b_made_one (n : Nat) : DS := mSeq (mSetV 2 (mCall (f_all_nodes n) (aCons (mTup (aCons (mVar 0) (aCons (mVar 1) (aNil)))) (aNil)))) (mSeq (mAsg (gT 2 (gsCons (gV 11) (gsCons (gV 12) (gsNil)))) (mCall (f_steps_from n) (aCons (mVarB 2) (aCons (mCall dLen (aCons (mVarB 0) (aNil))) (aNil))))) (mForget [6, 15, 16] (mSeq (mFor (iEnumD (mVar 11)) (gT 2 (gsCons (gV 6) (gsCons (gT 2 (gsCons (gV 15) (gsCons (gV 16) (gsNil)))) (gsNil)))) (mSeq (mIf (mTru (mCall (f_clash_of n) (aCons (mVarB 2) (aCons (mVarB 15) (aCons (mVarB 16) (aNil)))))) (mRet (mTup (aCons (mC (.str s_clash)) (aCons (mCall (f_needed_steps n) (aCons (mVarB 12) (aCons (mVarB 6) (aNil)))) (aNil))))) (mPass)) (mForget [6, 15, 16] mPass))) (mSeq (mSetO 3 (mNewK)) (mForget [4] (mSeq (mFor (iRg1 (mCall dLen (aCons (mVarB 2) (aNil)))) (gV 4) (mSeq (mPutD 3 (mVarB 4) (mCall dMin (aCons (mBin dAdd (mLst (aCons (mVar 4) (aNil))) (mLc [15, 16] (iOver (mVarB 11)) (gT 2 (gsCons (gV 15) (gsCons (gV 16) (gsNil)))) (mBinT dEq (mVarB 16) (mVarB 4)) (mVar 15))) (aNil)))) (mForget [4] mPass))) (mSeq (mSetO 5 (mLst (aCons (mC (.int 0)) (aNil)))) (mSeq (mSetV 6 (mC (.int 0))) (mForget [17, 18] (mSeq (mWhile (mBinT dLt (mVarB 6) (mCall dLen (aCons (mVarB 5) (aNil)))) (mForget [17, 18] (mSeq (mFor (iOver (mCall (f_merged_features n) (aCons (mVarB 2) (aCons (mVarB 3) (aCons (mBin dIx (mVarB 5) (mVarB 6)) (aNil)))))) (gT 2 (gsCons (gV 17) (gsCons (gV 18) (gsNil)))) (mSeq (mIf (mBinT dNotInX (mVarB 18) (mVarB 5)) (mSeq (mAppend 5 (mVar 18)) (mForget [] mPass)) (mForget [] mPass)) (mForget [17, 18] mPass))) (mSeq (mSetV 6 (mBin dAdd (mVarB 6) (mC (.int 1)))) (mForget [17, 18] mPass)))) 100) (mSeq (mSetV 7 (mDc [19, 9] (iEnumD (mVarB 5)) (gT 2 (gsCons (gV 19) (gsCons (gV 9) (gsNil)))) (mYes) (mVarB 9) (mVar 19))) (mSeq (mSetO 8 (mLst (aNil))) (mFrz 5 (mForget [9, 13, 14] (mSeq (mFor (iOver (mVar 5)) (gV 9) (mSeq (mSetV 13 (mLc [4] (iRg1 (mCall dLen (aCons (mVarB 2) (aNil)))) (gV 4) (mAnd (mBinT dEq (mBin dIx (mVarB 3) (mVarB 4)) (mVarB 9)) (mBinT dIsNot (mBin dIx (mBin dIx (mVarB 2) (mVarB 4)) (mC (.int 0))) (mC .non))) (mBin dIx (mBin dIx (mVarB 2) (mVarB 4)) (mC (.int 0))))) (mSeq (mSetV 14 (mLc [17, 18] (iOver (mCall (f_merged_features n) (aCons (mVarB 2) (aCons (mVarB 3) (aCons (mVarB 9) (aNil)))))) (gT 2 (gsCons (gV 17) (gsCons (gV 18) (gsNil)))) (mYes) (mTup (aCons (mVar 17) (aCons (mBin dIx (mVarB 7) (mVarB 18)) (aNil)))))) (mSeq (mAppend 8 (mTup (aCons (mIfE (mTru (mVarB 13)) (mBin dIx (mVarB 13) (mC (.int 0))) (mC .non)) (aCons (mCall dTuple (aCons (mVarB 14) (aNil))) (aNil))))) (mForget [9, 13, 14] mPass))))) (mSeq (mSetV 10 (mLc [4] (iRg1 (mCall dLen (aCons (mVarB 0) (aNil)))) (gV 4) (mYes) (mGet2 (mVarB 7) (mBin dIx (mVarB 3) (mVarB 4)) (mC .non)))) (mFrz 8 (mRet (mTup (aCons (mC (.str s_one)) (aCons (mVar 8) (aCons (mVar 10) (aCons (mLc [4] (iRg1 (mCall dLen (aCons (mVarB 1) (aNil)))) (gV 4) (mYes) (mGet2 (mVarB 7) (mBin dIx (mVarB 3) (mBin dAdd (mVarB 4) (mCall dLen (aCons (mVarB 0) (aNil))))) (mC .non))) (aNil))))))))))))))))))))))))
def f_made_one : Nat → List D → M D
  | 0 => fun _ => .fail
  | n + 1 => fnM 20 [false, false] (b_made_one n)
def b_pairs_by (n : Nat) : DS := mSeq (mSetO 3 (mLst (aNil))) (mForget [4, 5, 6, 8, 9, 10] (mSeq (mFor (iEnumD (mVar 2)) (gT 2 (gsCons (gV 4) (gsCons (gV 5) (gsNil)))) (mSeq (mSetV 6 (mC .non)) (mSeq (mIf (mBinT dEq (mBin dIx (mVarB 5) (mC (.int 0))) (mC (.str s_roots))) (mSeq (mSetV 6 (mTup (aCons (mC (.int 0)) (aCons (mVar 1) (aNil))))) (mForget [8, 9, 10] mPass)) (mSeq (mIf (mTru (mCall dAll (aCons (mLc [7] (iOver (mSl dSl (mVarB 5) (oSome (mC (.int 1))) (oNone))) (gV 7) (mOr (mBinT dNe (mVarB 7) (mBin dIx (mVarB 5) (mNeg (mC (.int 1))))) (mBinT dNe (mBin dIx (mVarB 5) (mC (.int 0))) (mC (.str s_down)))) (mChain dLe dLt (mC (.int 0)) (mVarB 7) (mVarB 4))) (aNil)))) (mSeq (mIf (mBinT dEq (mBin dIx (mVarB 5) (mC (.int 0))) (mC (.str s_turned))) (mSeq (mSetV 6 (mTup (aCons (mBin dIx (mBin dIx (mVarB 3) (mBin dIx (mVarB 5) (mC (.int 1)))) (mC (.int 1))) (aCons (mBin dIx (mBin dIx (mVarB 3) (mBin dIx (mVarB 5) (mC (.int 1)))) (mC (.int 0))) (aNil))))) (mForget [8, 9, 10] mPass)) (mSeq (mIf (mAnd (mBinT dEq (mBin dIx (mVarB 5) (mC (.int 0))) (mC (.str s_chain))) (mBinT dEq (mBin dIx (mBin dIx (mVarB 3) (mBin dIx (mVarB 5) (mC (.int 1)))) (mC (.int 1))) (mBin dIx (mBin dIx (mVarB 3) (mBin dIx (mVarB 5) (mC (.int 2)))) (mC (.int 0))))) (mSeq (mSetV 6 (mTup (aCons (mBin dIx (mBin dIx (mVarB 3) (mBin dIx (mVarB 5) (mC (.int 1)))) (mC (.int 0))) (aCons (mBin dIx (mBin dIx (mVarB 3) (mBin dIx (mVarB 5) (mC (.int 2)))) (mC (.int 1))) (aNil))))) (mForget [8, 9, 10] mPass)) (mSeq (mIf (mBinT dEq (mBin dIx (mVarB 5) (mC (.int 0))) (mC (.str s_down))) (mSeq (mAsg (gT 2 (gsCons (gV 9) (gsCons (gV 10) (gsNil)))) (mBin dIx (mVarB 3) (mBin dIx (mVarB 5) (mC (.int 1))))) (mSeq (mSetV 8 (mTup (aCons (mCall (f_goes n) (aCons (mVarB 0) (aCons (mVarB 9) (aCons (mBin dIx (mVarB 5) (mC (.int 2))) (aNil))))) (aCons (mCall (f_goes n) (aCons (mVarB 0) (aCons (mVarB 10) (aCons (mBin dIx (mVarB 5) (mC (.int 2))) (aNil))))) (aNil))))) (mSeq (mSetV 6 (mIfE (mBinT dNotInX (mC .non) (mVarB 8)) (mVar 8) (mC .non))) (mForget [8, 9, 10] mPass)))) (mForget [8, 9, 10] mPass)) (mForget [8, 9, 10] mPass))) (mForget [8, 9, 10] mPass))) (mForget [8, 9, 10] mPass)) (mForget [8, 9, 10] mPass)) (mForget [8, 9, 10] mPass))) (mSeq (mIf (mBinT dIs (mVarB 6) (mC .non)) (mRet (mVar 4)) (mPass)) (mSeq (mAppend 3 (mVar 6)) (mForget [4, 5, 6, 8, 9, 10] mPass)))))) (mFrz 3 (mRet (mVar 3)))))
def f_pairs_by : Nat → List D → M D
  | 0 => fun _ => .fail
  | n + 1 => fnM 11 [true, false, false] (b_pairs_by n)
def b_more_general (n : Nat) : DS := mSeq (mSetO 2 (mDispK (mC (.int 0)) (mC (.int 0)))) (mSeq (mSetO 3 (mLst (aCons (mC (.int 0)) (aNil)))) (mForget [4, 5, 6, 7, 8] (mSeq (mWhile (mTru (mVarB 3)) (mSeq (mPop0 4 3) (mSeq (mSetV 5 (mBin dIx (mVarB 2) (mVarB 4))) (mSeq (mIf (mAnd (mBinT dIsNot (mBin dIx (mBin dIx (mVarB 0) (mVarB 4)) (mC (.int 0))) (mC .non)) (mBinT dNe (mBin dIx (mBin dIx (mVarB 0) (mVarB 4)) (mC (.int 0))) (mBin dIx (mBin dIx (mVarB 1) (mVarB 5)) (mC (.int 0))))) (mRet (mC .non)) (mPass)) (mForget [6, 7, 8] (mSeq (mFor (iOver (mBin dIx (mBin dIx (mVarB 0) (mVarB 4)) (mC (.int 1)))) (gT 2 (gsCons (gV 6) (gsCons (gV 7) (gsNil)))) (mSeq (mSetV 8 (mCall (f_goes n) (aCons (mVarB 1) (aCons (mVarB 5) (aCons (mVarB 6) (aNil)))))) (mSeq (mIf (mOr (mBinT dIs (mVarB 8) (mC .non)) (mBinT dNe (mGet2 (mVarB 2) (mVarB 7) (mVar 8)) (mVarB 8))) (mRet (mC .non)) (mPass)) (mSeq (mIf (mBinT dNotInX (mVarB 7) (mVarB 2)) (mSeq (mPutD 2 (mVarB 7) (mVar 8)) (mSeq (mAppend 3 (mVar 7)) (mForget [] mPass))) (mForget [] mPass)) (mForget [6, 7, 8] mPass))))) (mForget [4, 5, 6, 7, 8] mPass)))))) 100) (mRet (mLc [4] (iRg1 (mCall dLen (aCons (mVarB 0) (aNil)))) (gV 4) (mYes) (mGet2 (mVarB 2) (mVarB 4) (mC .non)))))))
def f_more_general : Nat → List D → M D
  | 0 => fun _ => .fail
  | n + 1 => fnM 9 [true, true] (b_more_general n)
def b_is_structure (n : Nat) : DS := mSeq (mIf (mNot (mTru (mVarB 0))) (mRet (mC (.bl false))) (mPass)) (mForget [1, 2, 3, 4] (mSeq (mFor (iOver (mVar 0)) (gT 2 (gsCons (gV 1) (gsCons (gV 2) (gsNil)))) (mSeq (mSetV 3 (mLc [5, 6] (iOver (mVarB 2)) (gT 2 (gsCons (gV 5) (gsCons (gV 6) (gsNil)))) (mYes) (mVar 5))) (mSeq (mSetV 4 (mCall dAll (aCons (mLc [5, 6] (iOver (mVarB 2)) (gT 2 (gsCons (gV 5) (gsCons (gV 6) (gsNil)))) (mYes) (mChain dLe dLt (mC (.int 0)) (mVarB 6) (mCall dLen (aCons (mVarB 0) (aNil))))) (aNil)))) (mSeq (mIf (mOr (mBinT dNe (mVarB 3) (mSortSetS (mVarB 3))) (mOr (mNot (mTru (mVarB 4))) (mAnd (mBinT dIsNot (mVarB 1) (mC .non)) (mTru (mVarB 2))))) (mRet (mC (.bl false))) (mPass)) (mForget [1, 2, 3, 4] mPass))))) (mRet (mC (.bl true)))))
def f_is_structure : Nat → List D → M D
  | 0 => fun _ => .fail
  | n + 1 => fnM 7 [false] (b_is_structure n)
def b_made_one_fault (n : Nat) : DS := mSeq (mSetV 3 (mCall (f_all_nodes n) (aCons (mTup (aCons (mVar 0) (aCons (mVar 1) (aNil)))) (aNil)))) (mSeq (mIf (mBinT dEq (mBin dIx (mVarB 2) (mC (.int 0))) (mC (.str s_clash))) (mSeq (mSetV 6 (mCall (f_pairs_by n) (aCons (mVarB 3) (aCons (mCall dLen (aCons (mVarB 0) (aNil))) (aCons (mBin dIx (mVarB 2) (mC (.int 1))) (aNil)))))) (mSeq (mIf (mTru (mIsInt (mVarB 6))) (mRet (mTup (aCons (mC (.str s_step)) (aCons (mVar 6) (aNil))))) (mPass)) (mRet (mIfE (mAnd (mTru (mVarB 6)) (mTru (mCall (f_clash_of n) (aCons (mVarB 3) (aCons (mBin dIx (mBin dIx (mVarB 6) (mNeg (mC (.int 1)))) (mC (.int 0))) (aCons (mBin dIx (mBin dIx (mVarB 6) (mNeg (mC (.int 1)))) (mC (.int 1))) (aNil))))))) (mC .non) (mTup (aCons (mC (.str s_clash)) (aNil))))))) (mForget [6] mPass)) (mSeq (mSetV 4 (mBin dIx (mVarB 2) (mC (.int 1)))) (mSeq (mIf (mNot (mTru (mCall (f_is_structure n) (aCons (mVar 4) (aNil))))) (mRet (mTup (aCons (mC (.str s_structure)) (aNil)))) (mPass)) (mForget [7, 8] (mSeq (mFor (iOver (mTup (aCons (mTup (aCons (mC (.int 1)) (aCons (mVar 0) (aNil)))) (aCons (mTup (aCons (mC (.int 2)) (aCons (mVar 1) (aNil)))) (aNil))))) (gT 2 (gsCons (gV 7) (gsCons (gV 8) (gsNil)))) (mSeq (mIf (mBinT dNe (mCall (f_more_general n) (aCons (mVarB 8) (aCons (mVarB 4) (aNil)))) (mBin dIx (mVarB 2) (mBin dAdd (mVarB 7) (mC (.int 1))))) (mRet (mTup (aCons (mC (.str s_general)) (aCons (mVar 7) (aNil))))) (mPass)) (mForget [7, 8] mPass))) (mSeq (mSetV 5 (mCall (f_made_one n) (aCons (mVar 0) (aCons (mVar 1) (aNil))))) (mSeq (mIf (mOr (mBinT dEq (mBin dIx (mVarB 5) (mC (.int 0))) (mC (.str s_clash))) (mBinT dIs (mCall (f_more_general n) (aCons (mVarB 4) (aCons (mBin dIx (mVarB 5) (mC (.int 1))) (aNil)))) (mC .non))) (mRet (mTup (aCons (mC (.str s_less)) (aNil)))) (mPass)) (mRet (mC .non)))))))))
def f_made_one_fault : Nat → List D → M D
  | 0 => fun _ => .fail
  | n + 1 => fnM 9 [false, false, true] (b_made_one_fault n)
def b_law_structure (n : Nat) : DS := mSeq (mSetV 2 (mLc [4] (iOver (mLst (aCons (mC (.int 0)) (aCons (mC (.int 1)) (aNil))))) (gV 4) (mBinT dInX (mVarB 4) (mVarB 1)) (mVar 4))) (mSeq (mSetV 3 (mLst (aCons (mTup (aCons (mC .non) (aCons (mCall dTuple (aCons (mLc [5] (iRg1 (mCall dLen (aCons (mVarB 2) (aNil)))) (gV 5) (mYes) (mTup (aCons (mBin dIx (mLst (aCons (mC (.str s_case)) (aCons (mC (.str s_number)) (aNil)))) (mBin dIx (mVarB 2) (mVarB 5))) (aCons (mBin dAdd (mVarB 5) (mC (.int 1))) (aNil))))) (aNil))) (aNil)))) (aNil)))) (mRet (mBin dAdd (mVarB 3) (mLc [4] (iOver (mVarB 2)) (gV 4) (mYes) (mTup (aCons (mBin dIx (mC (.str s_xyz)) (mBin dIx (mVarB 0) (mVarB 4))) (aCons (mTup (aNil)) (aNil))))))))
def f_law_structure : Nat → List D → M D
  | 0 => fun _ => .fail
  | n + 1 => fnM 6 [true, true] (b_law_structure n)
def law_s8 (n : Nat) : DS := mRet (mOrV (mBin dEq (mCall dLen (aCons (mVarB 6) (aNil))) (mC (.int 0))) (mBin dEq (mBin dIx (mVarB 5) (mC (.int 1))) (mBin dIx (mVarB 6) (mC (.int 0)))))
def law_r8 (n : Nat) : DS := (law_s8 n)
def law_s7 (n : Nat) : DS := mIf (mOr (mBinT dNe (mCall (f_count_agreed n) (aCons (mVar 2) (aCons (mVarB 4) (aNil)))) (mCall dLen (aCons (mVarB 6) (aNil)))) (mBinT dNe (mBin dEq (mBin dIx (mVarB 5) (mC (.int 0))) (mC (.str s_forms))) (mBin dGt (mCall dLen (aCons (mVarB 6) (aNil))) (mC (.int 0))))) (mRet (mC (.bl false))) (mPass)
def law_r7 (n : Nat) : DS := mSeq (law_s7 n) ((law_r8 n))
def law_s6 (n : Nat) : DS := mFor (iRg1 (mCall dLen (aCons (mBin dIx (mVarB 2) (mC (.int 0))) (aNil)))) (gV 7) (mForget [8, 10, 11, 12, 14, 15] (mSeq (mFor (iRg1 (mCall dLen (aCons (mBin dIx (mVarB 2) (mC (.int 1))) (aNil)))) (gV 8) (mSeq (mPar 14 15 (aCons (mCall (f_law_structure n) (aCons (mBin dIx (mBin dIx (mVarB 2) (mC (.int 0))) (mVarB 7)) (aCons (mLst (aCons (mVar 3) (aNil))) (aNil)))) (aCons (mCall (f_law_structure n) (aCons (mBin dIx (mBin dIx (mVarB 2) (mC (.int 1))) (mVarB 8)) (aCons (mLst (aCons (mVar 3) (aNil))) (aNil)))) (aNil)))) (mSeq (mSetV 10 (mCall (f_made_one n) (aCons (mVar 14) (aCons (mVar 15) (aNil))))) (mSeq (mIf (mBinT dIsNot (mCall (f_made_one_fault n) (aCons (mVar 14) (aCons (mVar 15) (aCons (mVarB 10) (aNil))))) (mC .non)) (mRet (mC (.bl false))) (mPass)) (mSeq (mIf (mBinT dEq (mBin dIx (mVarB 10) (mC (.int 0))) (mC (.str s_one))) (mSeq (mAppend 6 (mLst (aCons (mVar 7) (aCons (mVar 8) (aNil))))) (mSeq (mIf (mOr (mBinT dNe (mBin dIx (mVarB 10) (mC (.int 1))) (mVarB 14)) (mBinT dNe (mCall (f_more_general n) (aCons (mVarB 14) (aCons (mVarB 15) (aNil)))) (mLst (aCons (mC (.int 0)) (aCons (mC (.int 1)) (aNil)))))) (mRet (mC (.bl false))) (mPass)) (mForget [] mPass))) (mForget [] mPass)) (mSeq (mSetV 11 (mCall (f_made_one n) (aCons (mCall (f_law_structure n) (aCons (mBin dIx (mBin dIx (mVarB 2) (mC (.int 0))) (mVarB 7)) (aCons (mLst (aCons (mC (.int 0)) (aCons (mC (.int 1)) (aNil)))) (aNil)))) (aCons (mCall (f_law_structure n) (aCons (mBin dIx (mBin dIx (mVarB 2) (mC (.int 1))) (mVarB 8)) (aCons (mLst (aCons (mC (.int 0)) (aCons (mC (.int 1)) (aNil)))) (aNil)))) (aNil))))) (mSeq (mIf (mBinT dNe (mBin dEq (mBin dIx (mVarB 11) (mC (.int 0))) (mC (.str s_one))) (mBin dEq (mBin dIx (mBin dIx (mVarB 2) (mC (.int 0))) (mVarB 7)) (mBin dIx (mBin dIx (mVarB 2) (mC (.int 1))) (mVarB 8)))) (mRet (mC (.bl false))) (mPass)) (mSeq (mSetV 12 (mCall (f_made_one n) (aCons (mCall (f_law_structure n) (aCons (mBin dIx (mBin dIx (mVarB 2) (mC (.int 0))) (mVarB 7)) (aCons (mLst (aCons (mC (.int 0)) (aNil))) (aNil)))) (aCons (mCall (f_law_structure n) (aCons (mBin dIx (mBin dIx (mVarB 2) (mC (.int 1))) (mVarB 8)) (aCons (mLst (aCons (mC (.int 1)) (aNil))) (aNil)))) (aNil))))) (mSeq (mIf (mOr (mBinT dNe (mBin dIx (mVarB 12) (mC (.int 0))) (mC (.str s_one))) (mBinT dNe (mBin dIx (mVarB 12) (mC (.int 1))) (mCall (f_law_structure n) (aCons (mTup (aCons (mBin dIx (mBin dIx (mBin dIx (mVarB 2) (mC (.int 0))) (mVarB 7)) (mC (.int 0))) (aCons (mBin dIx (mBin dIx (mBin dIx (mVarB 2) (mC (.int 1))) (mVarB 8)) (mC (.int 1))) (aNil)))) (aCons (mLst (aCons (mC (.int 0)) (aCons (mC (.int 1)) (aNil)))) (aNil)))))) (mRet (mC (.bl false))) (mPass)) (mForget [8, 10, 11, 12, 14, 15] mPass)))))))))) (mForget [7, 8, 10, 11, 12, 14, 15] mPass)))
def law_r6 (n : Nat) : DS := mForget [7, 8, 10, 11, 12, 14, 15] (mSeq (law_s6 n) ((law_r7 n)))
def law_s5 (n : Nat) : DS := mSetO 6 (mLst (aNil))
def law_r5 (n : Nat) : DS := mSeq (law_s5 n) ((law_r6 n))
def law_s4 (n : Nat) : DS := mIf (mBinT dIsNot (mCall (f_agreed_fault n) (aCons (mVarB 2) (aCons (mVar 4) (aCons (mVarB 5) (aNil))))) (mC .non)) (mRet (mC (.bl false))) (mPass)
def law_r4 (n : Nat) : DS := mSeq (law_s4 n) ((law_r5 n))
def law_s3 (n : Nat) : DS := mSetV 5 (mCall (f_agreed n) (aCons (mVarB 2) (aCons (mVar 4) (aNil))))
def law_r3 (n : Nat) : DS := mSeq (law_s3 n) ((law_r4 n))
def law_s2 (n : Nat) : DS := mSetV 4 (mLst (aCons (mTup (aCons (mC (.int 0)) (aCons (mC (.int 1)) (aCons (mVar 3) (aNil))))) (aNil)))
def law_r2 (n : Nat) : DS := mSeq (law_s2 n) ((law_r3 n))
def law_s1 (n : Nat) : DS := mSetV 3 (mCall takeM (aCons (mVar 1) (aCons (mC (.int 2)) (aNil))))
def law_r1 (n : Nat) : DS := mSeq (law_s1 n) ((law_r2 n))
def law_s0 (n : Nat) : DS := mSetV 2 (mLc [9] (iRg1 (mC (.int 2))) (gV 9) (mYes) (mLc [13] (iRg1 (mBin dAdd (mC (.int 1)) (mCall takeM (aCons (mVar 1) (aCons (mC (.int 4)) (aNil)))))) (gV 13) (mYes) (mTup (aCons (mCall takeM (aCons (mVar 1) (aCons (mC (.int 3)) (aNil)))) (aCons (mCall takeM (aCons (mVar 1) (aCons (mC (.int 3)) (aNil)))) (aNil))))))
def law_r0 (n : Nat) : DS := mSeq (law_s0 n) ((law_r1 n))
def b_law (n : Nat) : DS := (law_r0 n)
structure Adr where
  a_partners : Addr
  d_partners : FuncData
  a_left_out : Addr
  d_left_out : FuncData
  a_agreed : Addr
  d_agreed : FuncData
  a_fits_on : Addr
  d_fits_on : FuncData
  a_agreed_fault : Addr
  d_agreed_fault : FuncData
  a_count_agreed : Addr
  d_count_agreed : FuncData
  a_agrees : Addr
  d_agrees : FuncData
  a_goes : Addr
  d_goes : FuncData
  a_all_nodes : Addr
  d_all_nodes : FuncData
  a_clash_of : Addr
  d_clash_of : FuncData
  a_steps_from : Addr
  d_steps_from : FuncData
  a_needed_steps : Addr
  d_needed_steps : FuncData
  a_made_one : Addr
  d_made_one : FuncData
  a_merged_features : Addr
  d_merged_features : FuncData
  a_pairs_by : Addr
  d_pairs_by : FuncData
  a_more_general : Addr
  d_more_general : FuncData
  a_made_one_fault : Addr
  d_made_one_fault : FuncData
  a_is_structure : Addr
  d_is_structure : FuncData
  a_law_state : Addr
  d_law_state : FuncData
  a_law_take : Addr
  d_law_take : FuncData
  a_law_structure : Addr
  d_law_structure : FuncData
  a_law : Addr
  d_law : FuncData
structure Tb (K : PySem.W.Frag) (mg : Str → Option Value) (α : Adr) : Prop where
  F_partners : Fun K "partners" "partners" s_T_partners α.a_partners α.d_partners
  b_partners : Binds K α.d_partners ["words", "left", "word", "form", "tie"] []
  m_partners : mg "partners" = some (.ref α.a_partners)
  F_left_out : Fun K "left_out" "left_out" s_T_left_out α.a_left_out α.d_left_out
  b_left_out : Binds K α.d_left_out ["words", "ties"] []
  m_left_out : mg "left_out" = some (.ref α.a_left_out)
  F_agreed : Fun K "agreed" "agreed" s_T_agreed α.a_agreed α.d_agreed
  b_agreed : Binds K α.d_agreed ["words", "ties"] []
  m_agreed : mg "agreed" = some (.ref α.a_agreed)
  F_fits_on : Fun K "fits_on" "fits_on" s_T_fits_on α.a_fits_on α.d_fits_on
  b_fits_on : Binds K α.d_fits_on ["words", "ties", "chosen"] []
  m_fits_on : mg "fits_on" = some (.ref α.a_fits_on)
  F_agreed_fault : Fun K "agreed_fault" "agreed_fault" s_T_agreed_fault α.a_agreed_fault α.d_agreed_fault
  b_agreed_fault : Binds K α.d_agreed_fault ["words", "ties", "told"] []
  m_agreed_fault : mg "agreed_fault" = some (.ref α.a_agreed_fault)
  F_count_agreed : Fun K "count_agreed" "count_agreed" s_T_count_agreed α.a_count_agreed α.d_count_agreed
  b_count_agreed : Binds K α.d_count_agreed ["words", "ties"] []
  m_count_agreed : mg "count_agreed" = some (.ref α.a_count_agreed)
  F_agrees : Fun K "agrees" "agrees" s_T_agrees α.a_agrees α.d_agrees
  b_agrees : Binds K α.d_agrees ["words", "row", "tie"] []
  m_agrees : mg "agrees" = some (.ref α.a_agrees)
  F_goes : Fun K "goes" "goes" s_T_goes α.a_goes α.d_goes
  b_goes : Binds K α.d_goes ["one", "node", "feature"] []
  m_goes : mg "goes" = some (.ref α.a_goes)
  F_all_nodes : Fun K "all_nodes" "all_nodes" s_T_all_nodes α.a_all_nodes α.d_all_nodes
  b_all_nodes : Binds K α.d_all_nodes ["both"] []
  m_all_nodes : mg "all_nodes" = some (.ref α.a_all_nodes)
  F_clash_of : Fun K "clash_of" "clash_of" s_T_clash_of α.a_clash_of α.d_clash_of
  b_clash_of : Binds K α.d_clash_of ["nodes", "one", "other"] []
  m_clash_of : mg "clash_of" = some (.ref α.a_clash_of)
  F_steps_from : Fun K "steps_from" "steps_from" s_T_steps_from α.a_steps_from α.d_steps_from
  b_steps_from : Binds K α.d_steps_from ["nodes", "many"] []
  m_steps_from : mg "steps_from" = some (.ref α.a_steps_from)
  F_needed_steps : Fun K "needed_steps" "needed_steps" s_T_needed_steps α.a_needed_steps α.d_needed_steps
  b_needed_steps : Binds K α.d_needed_steps ["steps", "last"] []
  m_needed_steps : mg "needed_steps" = some (.ref α.a_needed_steps)
  F_made_one : Fun K "made_one" "made_one" s_T_made_one α.a_made_one α.d_made_one
  b_made_one : Binds K α.d_made_one ["one", "other"] []
  m_made_one : mg "made_one" = some (.ref α.a_made_one)
  F_merged_features : Fun K "merged_features" "merged_features" s_T_merged_features α.a_merged_features α.d_merged_features
  b_merged_features : Binds K α.d_merged_features ["nodes", "groups", "group"] []
  m_merged_features : mg "merged_features" = some (.ref α.a_merged_features)
  F_pairs_by : Fun K "pairs_by" "pairs_by" s_T_pairs_by α.a_pairs_by α.d_pairs_by
  b_pairs_by : Binds K α.d_pairs_by ["nodes", "many", "steps"] []
  m_pairs_by : mg "pairs_by" = some (.ref α.a_pairs_by)
  F_more_general : Fun K "more_general" "more_general" s_T_more_general α.a_more_general α.d_more_general
  b_more_general : Binds K α.d_more_general ["one", "other"] []
  m_more_general : mg "more_general" = some (.ref α.a_more_general)
  F_made_one_fault : Fun K "made_one_fault" "made_one_fault" s_T_made_one_fault α.a_made_one_fault α.d_made_one_fault
  b_made_one_fault : Binds K α.d_made_one_fault ["one", "other", "told"] []
  m_made_one_fault : mg "made_one_fault" = some (.ref α.a_made_one_fault)
  F_is_structure : Fun K "is_structure" "is_structure" s_T_is_structure α.a_is_structure α.d_is_structure
  b_is_structure : Binds K α.d_is_structure ["rows"] []
  m_is_structure : mg "is_structure" = some (.ref α.a_is_structure)
  F_law_state : Fun K "_law_state" "_law_state" s_T_law_state α.a_law_state α.d_law_state
  b_law_state : Binds K α.d_law_state ["script"] []
  m_law_state : mg "_law_state" = some (.ref α.a_law_state)
  F_law_take : Fun K "_law_take" "_law_take" s_T_law_take α.a_law_take α.d_law_take
  b_law_take : Binds K α.d_law_take ["state", "most"] []
  m_law_take : mg "_law_take" = some (.ref α.a_law_take)
  F_law_structure : Fun K "_law_structure" "_law_structure" s_T_law_structure α.a_law_structure α.d_law_structure
  b_law_structure : Binds K α.d_law_structure ["form", "kept"] []
  m_law_structure : mg "_law_structure" = some (.ref α.a_law_structure)
  F_law : Fun K "law" "law" s_T_law α.a_law α.d_law
  b_law : Binds K α.d_law ["script"] []
  m_law : mg "law" = some (.ref α.a_law)
  z_abs : mg "abs" = none
  z_all : mg "all" = none
  z_any : mg "any" = none
  z_enumerate : mg "enumerate" = none
  z_int : mg "int" = none
  z_isinstance : mg "isinstance" = none
  z_len : mg "len" = none
  z_list : mg "list" = none
  z_min : mg "min" = none
  z_range : mg "range" = none
  z_set : mg "set" = none
  z_sorted : mg "sorted" = none
  z_tuple : mg "tuple" = none
/-- all defs keep their promises, n calls deep -/
structure Ok (P : Program) (w : World) (K : PySem.W.Frag) (mg : Str → Option Value) (base : Heap) (α : Adr) (S : SA) (n : Nat) : Prop where
  hS : S.pr = P ∧ S.wd = w
  partners : FnOk P w K mg base CX0 (n + 1) α.a_partners α.d_partners ["words", "left", "word", "form", "tie"] (spD S [true, true, true, true, false] (f_partners n))
  left_out : FnOk P w K mg base CX0 (n + 1) α.a_left_out α.d_left_out ["words", "ties"] (spD S [true, false] (f_left_out n))
  agreed : FnOk P w K mg base CX0 (n + 1) α.a_agreed α.d_agreed ["words", "ties"] (spD S [true, false] (f_agreed n))
  fits_on : FnOk P w K mg base CX0 (n + 1) α.a_fits_on α.d_fits_on ["words", "ties", "chosen"] (spD S [true, false, true] (f_fits_on n))
  agreed_fault : FnOk P w K mg base CX0 (n + 1) α.a_agreed_fault α.d_agreed_fault ["words", "ties", "told"] (spD S [true, false, true] (f_agreed_fault n))
  count_agreed : FnOk P w K mg base CX0 (n + 1) α.a_count_agreed α.d_count_agreed ["words", "ties"] (spD S [false, true] (f_count_agreed n))
  agrees : FnOk P w K mg base CX0 (n + 1) α.a_agrees α.d_agrees ["words", "row", "tie"] (spD S [true, true, false] (f_agrees n))
  goes : FnOk P w K mg base CX0 (n + 1) α.a_goes α.d_goes ["one", "node", "feature"] (spD S [true, true, true] (f_goes n))
  all_nodes : FnOk P w K mg base CX0 (n + 1) α.a_all_nodes α.d_all_nodes ["both"] (spD S [true] (f_all_nodes n))
  clash_of : FnOk P w K mg base CX0 (n + 1) α.a_clash_of α.d_clash_of ["nodes", "one", "other"] (spD S [true, true, true] (f_clash_of n))
  steps_from : FnOk P w K mg base CX0 (n + 1) α.a_steps_from α.d_steps_from ["nodes", "many"] (spD S [true, false] (f_steps_from n))
  needed_steps : FnOk P w K mg base CX0 (n + 1) α.a_needed_steps α.d_needed_steps ["steps", "last"] (spD S [true, true] (f_needed_steps n))
  made_one : FnOk P w K mg base CX0 (n + 1) α.a_made_one α.d_made_one ["one", "other"] (spD S [false, false] (f_made_one n))
  merged_features : FnOk P w K mg base CX0 (n + 1) α.a_merged_features α.d_merged_features ["nodes", "groups", "group"] (spD S [true, true, true] (f_merged_features n))
  pairs_by : FnOk P w K mg base CX0 (n + 1) α.a_pairs_by α.d_pairs_by ["nodes", "many", "steps"] (spD S [true, false, false] (f_pairs_by n))
  more_general : FnOk P w K mg base CX0 (n + 1) α.a_more_general α.d_more_general ["one", "other"] (spD S [true, true] (f_more_general n))
  made_one_fault : FnOk P w K mg base CX0 (n + 1) α.a_made_one_fault α.d_made_one_fault ["one", "other", "told"] (spD S [false, false, true] (f_made_one_fault n))
  is_structure : FnOk P w K mg base CX0 (n + 1) α.a_is_structure α.d_is_structure ["rows"] (spD S [false] (f_is_structure n))
  law_take : FnOk P w K mg base CX0 (n + 1) α.a_law_take α.d_law_take ["state", "most"] (spD S [false, false] takeM)
  law_structure : FnOk P w K mg base CX0 (n + 1) α.a_law_structure α.d_law_structure ["form", "kept"] (spD S [true, true] (f_law_structure n))
section
variable {P : Program} {w : World} {K : PySem.W.Frag} {mg : Str → Option Value} {base : Heap} {α : Adr} {S : SA} {n : Nat}
theorem ok_partners (T : Tb K mg α) (I : Ok P w K mg base α S n) : FnOk P w K mg base CX0 (n + 1 + 1) α.a_partners α.d_partners ["words", "left", "word", "form", "tie"] (spD S [true, true, true, true, false] (f_partners (n + 1))) :=
  fn_ok [true, true, true, true, false] T.F_partners sc_partners rfl fun cdv A outer s H E hr =>
  (qs_cons (qasg [6, 7, 8] (qv 4) (qgt 3 (qgs_cons (qgv 6 sc_partners.nd) (qgs_cons (qgv 7 sc_partners.nd) (qgs_cons (qgv 8 sc_partners.nd) qgs_nil)))))
  (qs_cons (qset 5 sc_partners.nd (qifE (qtcmp (o_eq (hu64 hr)) (qvb 2) (qvb 6)) (qv 7) (qv 6)))
  (qs_one (qret (qlc [("at", 9)] sc_partners.nd (qi_any (imCompOk _) (qix (hu1 hr) (qvb 1) (qvb 5)).b.xc) (blkOk_by (N := N_partners) (sc := defScope s_T_partners) (by decide +kernel)) (fun _ _ _ _ _ => (qgv 9 sc_partners.nd)) (fun _ _ _ _ _ => (qts_one (qtcmp (o_eq (hu64 hr)) (qix (hu1 hr) (qix (hu1 hr) (qix (hu1 hr) (qvb 0) (qvb 5)).b (qvb 9)).b (qvb 8)).b (qix (hu1 hr) (qix (hu1 hr) (qix (hu1 hr) (qvb 0) (qvb 2)).b (qvb 3)).b (qvb 8)).b))) (fun _ _ _ _ _ => (qv 9))).e))))
theorem ok_left_out (T : Tb K mg α) (I : Ok P w K mg base α S n) : FnOk P w K mg base CX0 (n + 1 + 1) α.a_left_out α.d_left_out ["words", "ties"] (spD S [true, false] (f_left_out (n + 1))) :=
  fn_ok [true, false] T.F_left_out sc_left_out rfl fun cdv A outer s H E hr =>
  (qs_cons (qsetLc 2 [("forms", 5)] sc_left_out.nd (qi_any (imCompOk _) (qvb 0).xc) (blkOk_by (N := N_left_out) (sc := defScope s_T_left_out) (by decide +kernel)) (fun _ _ _ _ _ => (qgv 5 sc_left_out.nd)) (fun _ _ _ _ _ => qts_nil) (fun _ _ _ _ _ => (qlistRg1 (by rfl) (by rfl) T.z_list (by rfl) T.z_range (qcallB c_len (by rfl) T.z_len (by decide +kernel) (qab_cons (qvb 5) qab_nil)).b).e) (sw_true rfl rfl rfl (by decide +kernel)))
  (qs_cons (qsetO 3 sc_left_out.nd (qlst qa_nil))
  (qs_cons (qset 4 sc_left_out.nd qbl)
  (qforget [6, 7, 8, 9] (qs_cons (qwhile 100 (qtru (qvb 4))
  (qs_cons (qset 4 sc_left_out.nd qbl)
  (qforget [6, 7, 8, 9] (qs_cons (qfor [6, 7] (qi_enum imForOk (by rfl) T.z_enumerate (qv 1).xf) (qgt 2 (qgs_cons (qgv 6 sc_left_out.nd) (qgs_cons (qgv 7 sc_left_out.nd) qgs_nil)))
  (qforget [8, 9] (qs_cons (qfor [8] (qi_any imForOk (qsl (qvb 7) qo_none (qo_some qint.b)).xf) (qgv 8 sc_left_out.nd)
  (qforget [9] (qs_cons (qfor [9] (qi_any imForOk (qcallTF c_list (by rfl) T.z_list (by decide +kernel) (qab_cons (qix (hu1 hr) (qvb 2) (qvb 8)).b qab_nil)).e.xf) (qgv 9 sc_left_out.nd)
  (qs_cons (qif (qt_not (qtru (qcall I.partners hr (by rfl) T.m_partners T.F_partners.kp T.b_partners (qam_b (qvb 0) (qam_b (qvb 2) (qam_b (qvb 8) (qam_b (qvb 9) (qam_v (qv 7) qam_nil)))))).b))
  (qs_cons (qputL 2 (qvb 8) (qlc [("one", 10)] sc_left_out.nd (qi_any (imCompOk _) (qix (hu1 hr) (qvb 2) (qvb 8)).b.xc) (blkOk_by (N := N_left_out) (sc := defScope s_T_left_out) (by decide +kernel)) (fun _ _ _ _ _ => (qgv 10 sc_left_out.nd)) (fun _ _ _ _ _ => (qts_one (qtcmp (o_ne (hu64 hr)) (qvb 10) (qvb 9)))) (fun _ _ _ _ _ => (qv 10))).e)
  (qs_cons (qappend 3 (qtup (qa_cons (qv 8) (qa_cons (qv 9) (qa_cons (qv 6) qa_nil)))))
  (qs_cons (qset 4 sc_left_out.nd qbl) (qforget [] qs_nil))))
  (qforget [] qs_nil)) (qforget [9] qs_nil))) (qforget [8, 9] qs_nil)))) (qforget [6, 7, 8, 9] qs_nil)))) (qforget [6, 7, 8, 9] qs_nil)))))
  (qfrz 3 (qfrz 2 (qs_one (qret (qtup (qa_cons (qv 2) (qa_cons (qv 3) qa_nil))))))))))))
theorem ok_fits_on (T : Tb K mg α) (I : Ok P w K mg base α S n) : FnOk P w K mg base CX0 (n + 1 + 1) α.a_fits_on α.d_fits_on ["words", "ties", "chosen"] (spD S [true, false, true] (f_fits_on (n + 1))) :=
  fn_ok [true, false, true] T.F_fits_on sc_fits_on rfl fun cdv A outer s H E hr =>
  (qs_cons (qset 3 sc_fits_on.nd (qbin o_add (qlc [("word", 7), ("form", 8)] sc_fits_on.nd (qi_enum (imCompOk _) (by rfl) T.z_enumerate (qvb 2).xc) (blkOk_by (N := N_fits_on) (sc := defScope s_T_fits_on) (by decide +kernel)) (fun _ _ _ _ _ => (qgt 2 (qgs_cons (qgv 7 sc_fits_on.nd) (qgs_cons (qgv 8 sc_fits_on.nd) qgs_nil)))) (fun _ _ _ _ _ => qts_nil) (fun _ _ _ _ _ => (qlst (qa_cons (qix (hu1 hr) (qix (hu1 hr) (qvb 0) (qvb 7)).b (qvb 8)) qa_nil)).e)).b (qsl (qvb 0) (qo_some (qcallB c_len (by rfl) T.z_len (by decide +kernel) (qab_cons (qvb 2) qab_nil)).b) qo_none).b))
  (qs_cons (qasg [4, 5] (qcall I.left_out hr (by rfl) T.m_left_out T.F_left_out.kp T.b_left_out (qam_b (qvb 3) (qam_v (qv 1) qam_nil))) (qgt 2 (qgs_cons (qgv 4 sc_fits_on.nd) (qgs_cons (qgv 5 sc_fits_on.nd) qgs_nil))))
  (qs_one (qret (qcallB (c_all (by rfl)) (by rfl) T.z_all (by decide +kernel) (qab_cons (qlc [("lot", 6)] sc_fits_on.nd (qi_any (imCompOk _) (qvb 4).xc) (blkOk_by (N := N_fits_on) (sc := defScope s_T_fits_on) (by decide +kernel)) (fun _ _ _ _ _ => (qgv 6 sc_fits_on.nd)) (fun _ _ _ _ _ => qts_nil) (fun _ _ _ _ _ => (qcmp o_gt (qcallB c_len (by rfl) T.z_len (by decide +kernel) (qab_cons (qvb 6) qab_nil)).b qint.b))).b qab_nil))))))
theorem ok_agreed (T : Tb K mg α) (I : Ok P w K mg base α S n) : FnOk P w K mg base CX0 (n + 1 + 1) α.a_agreed α.d_agreed ["words", "ties"] (spD S [true, false] (f_agreed (n + 1))) :=
  fn_ok [true, false] T.F_agreed sc_agreed rfl fun cdv A outer s H E hr =>
  (qs_cons (qasg [5, 6] (qcall I.left_out hr (by rfl) T.m_left_out T.F_left_out.kp T.b_left_out (qam_b (qvb 0) (qam_v (qv 1) qam_nil))) (qgt 2 (qgs_cons (qgv 5 sc_agreed.nd) (qgs_cons (qgv 6 sc_agreed.nd) qgs_nil))))
  (qs_cons (qsetLcV 2 [("word", 4)] sc_agreed.nd (qi_rg1 (by rfl) T.z_range (qcallB c_len (by rfl) T.z_len (by decide +kernel) (qab_cons (qvb 0) qab_nil)).b) (blkOk_by (N := N_agreed) (sc := defScope s_T_agreed) (by decide +kernel)) (fun _ _ _ _ _ => (qgv 4 sc_agreed.nd)) (fun _ _ _ _ _ => (qts_one (qt_not (qtru (qix (hu1 hr) (qvb 5) (qvb 4)).b)))) (fun _ _ _ _ _ => (qv 4)) (sw_true rfl rfl rfl (by decide +kernel)))
  (qs_cons (qif (qtru (qvb 2))
  (qs_one (qret (qtup (qa_cons (qstr s_never) (qa_cons (qv 6) qa_nil)))))
  qs_nil)
  (qs_cons (qsetO 3 sc_agreed.nd (qlst qa_nil))
  (qforget [4, 7] (qs_cons (qfor [4] (qi_rg1 (by rfl) T.z_range (qcallB c_len (by rfl) T.z_len (by decide +kernel) (qab_cons (qvb 0) qab_nil)).b) (qgv 4 sc_agreed.nd)
  (qforget [7] (qs_cons (qfor [7] (qi_any imForOk (qix (hu1 hr) (qvb 5) (qvb 4)).xf) (qgv 7 sc_agreed.nd)
  (qs_cons (qif (qtru (qcall I.fits_on hr (by rfl) T.m_fits_on T.F_fits_on.kp T.b_fits_on (qam_b (qvb 0) (qam_v (qv 1) (qam_b (qbin o_add (qvb 3) (qlst (qa_cons (qv 7) qa_nil)).b).b qam_nil)))).b)
  (qs_cons (qappend 3 (qv 7))
  (qforget [7] (qs_one qbreak)))
  (qforget [] qs_nil)) (qforget [7] qs_nil))) (qforget [4, 7] qs_nil))))
  (qfrz 3 (qs_one (qret (qtup (qa_cons (qstr s_forms) (qa_cons (qv 3) qa_nil))))))))))))
theorem ok_agreed_fault (T : Tb K mg α) (I : Ok P w K mg base α S n) : FnOk P w K mg base CX0 (n + 1 + 1) α.a_agreed_fault α.d_agreed_fault ["words", "ties", "told"] (spD S [true, false, true] (f_agreed_fault (n + 1))) :=
  fn_ok [true, false, true] T.F_agreed_fault sc_agreed_fault rfl fun cdv A outer s H E hr =>
  (qs_cons (qif (qtcmp (o_eq (hu64 hr)) (qix (hu1 hr) (qvb 2) qint.b).b (qstr s_forms).b)
  (qs_cons (qif (qtcmp (o_ne (hu64 hr)) (qcallB c_len (by rfl) T.z_len (by decide +kernel) (qab_cons (qix (hu1 hr) (qvb 2) qint.b).b qab_nil)).b (qcallB c_len (by rfl) T.z_len (by decide +kernel) (qab_cons (qvb 0) qab_nil)).b)
  (qs_one (qret (qtup (qa_cons (qstr s_length) qa_nil))))
  qs_nil)
  (qforget [5, 6] (qs_cons (qfor [5, 6] (qi_enum imForOk (by rfl) T.z_enumerate (qix (hu1 hr) (qvb 2) qint.b).xf) (qgt 2 (qgs_cons (qgv 5 sc_agreed_fault.nd) (qgs_cons (qgv 6 sc_agreed_fault.nd) qgs_nil)))
  (qs_cons (qif (qt_not (qtchain o_le o_lt qint.b (qvb 6) (qcallB c_len (by rfl) T.z_len (by decide +kernel) (qab_cons (qix (hu1 hr) (qvb 0) (qvb 5)).b qab_nil)).b))
  (qs_one (qret (qtup (qa_cons (qstr s_form) (qa_cons (qv 5) qa_nil)))))
  qs_nil) (qforget [5, 6] qs_nil)))
  (qforget [7, 9, 10, 11] (qs_cons (qfor [7, 9, 10, 11] (qi_enum imForOk (by rfl) T.z_enumerate (qv 1).xf) (qgt 2 (qgs_cons (qgv 7 sc_agreed_fault.nd) (qgs_cons (qgt 3 (qgs_cons (qgv 9 sc_agreed_fault.nd) (qgs_cons (qgv 10 sc_agreed_fault.nd) (qgs_cons (qgv 11 sc_agreed_fault.nd) qgs_nil)))) qgs_nil)))
  (qs_cons (qif (qtcmp (o_ne (hu64 hr)) (qix (hu1 hr) (qix (hu1 hr) (qix (hu1 hr) (qvb 0) (qvb 9)).b (qix (hu1 hr) (qix (hu1 hr) (qvb 2) qint.b).b (qvb 9)).b).b (qvb 11)).b (qix (hu1 hr) (qix (hu1 hr) (qix (hu1 hr) (qvb 0) (qvb 10)).b (qix (hu1 hr) (qix (hu1 hr) (qvb 2) qint.b).b (qvb 10)).b).b (qvb 11)).b)
  (qs_one (qret (qtup (qa_cons (qstr s_tie) (qa_cons (qv 7) qa_nil)))))
  qs_nil) (qforget [7, 9, 10, 11] qs_nil)))
  (qs_one (qret qnon)))))))
  (qforget [5, 6, 7, 9, 10, 11] qs_nil))
  (qs_cons (qsetLc 3 [("forms", 8)] sc_agreed_fault.nd (qi_any (imCompOk _) (qvb 0).xc) (blkOk_by (N := N_agreed_fault) (sc := defScope s_T_agreed_fault) (by decide +kernel)) (fun _ _ _ _ _ => (qgv 8 sc_agreed_fault.nd)) (fun _ _ _ _ _ => qts_nil) (fun _ _ _ _ _ => (qlistRg1 (by rfl) (by rfl) T.z_list (by rfl) T.z_range (qcallB c_len (by rfl) T.z_len (by decide +kernel) (qab_cons (qvb 8) qab_nil)).b).e) (sw_true rfl rfl rfl (by decide +kernel)))
  (qforget [4, 5, 6, 7] (qs_cons (qfor [4, 5, 6, 7] (qi_enum imForOk (by rfl) T.z_enumerate (qix (hu1 hr) (qvb 2) qint.b).xf) (qgt 2 (qgs_cons (qgv 4 sc_agreed_fault.nd) (qgs_cons (qgt 3 (qgs_cons (qgv 5 sc_agreed_fault.nd) (qgs_cons (qgv 6 sc_agreed_fault.nd) (qgs_cons (qgv 7 sc_agreed_fault.nd) qgs_nil)))) qgs_nil)))
  (qs_cons (qif (qw_or (qt_not (qtchain o_le o_lt qint.b (qvb 5) (qcallB c_len (by rfl) T.z_len (by decide +kernel) (qab_cons (qvb 0) qab_nil)).b)) (qw_or (qtcmp (o_notInX (hu65 hr)) (qvb 6) (qix (hu1 hr) (qvb 3) (qvb 5)).b) (qw_or (qt_not (qtchain o_le o_lt qint.b (qvb 7) (qcallB c_len (by rfl) T.z_len (by decide +kernel) (qab_cons (qvb 1) qab_nil)).b)) (qw_or1 (qtcmp (o_notInX (hu65 hr)) (qvb 5) (qsl (qix (hu1 hr) (qvb 1) (qvb 7)).b qo_none (qo_some qint.b)).b))))).test
  (qs_one (qret (qtup (qa_cons (qstr s_row) (qa_cons (qv 4) qa_nil)))))
  qs_nil)
  (qs_cons (qif (qtru (qcall I.partners hr (by rfl) T.m_partners T.F_partners.kp T.b_partners (qam_b (qvb 0) (qam_b (qvb 3) (qam_b (qvb 5) (qam_b (qvb 6) (qam_v (qix (hu1 hr) (qvb 1) (qvb 7)) qam_nil)))))).b)
  (qs_one (qret (qtup (qa_cons (qstr s_partner) (qa_cons (qv 4) qa_nil)))))
  qs_nil)
  (qs_cons (qputL 3 (qvb 5) (qlc [("one", 9)] sc_agreed_fault.nd (qi_any (imCompOk _) (qix (hu1 hr) (qvb 3) (qvb 5)).b.xc) (blkOk_by (N := N_agreed_fault) (sc := defScope s_T_agreed_fault) (by decide +kernel)) (fun _ _ _ _ _ => (qgv 9 sc_agreed_fault.nd)) (fun _ _ _ _ _ => (qts_one (qtcmp (o_ne (hu64 hr)) (qvb 9) (qvb 6)))) (fun _ _ _ _ _ => (qv 9))).e) (qforget [4, 5, 6, 7] qs_nil)))))
  (qs_one (qret (qifE (qtru (qcallB (c_any (by rfl)) (by rfl) T.z_any (by decide +kernel) (qab_cons (qlc [("lot", 12)] sc_agreed_fault.nd (qi_any (imCompOk _) (qvb 3).xc) (blkOk_by (N := N_agreed_fault) (sc := defScope s_T_agreed_fault) (by decide +kernel)) (fun _ _ _ _ _ => (qgv 12 sc_agreed_fault.nd)) (fun _ _ _ _ _ => qts_nil) (fun _ _ _ _ _ => (qcmp (o_eq (hu64 hr)) (qcallB c_len (by rfl) T.z_len (by decide +kernel) (qab_cons (qvb 12) qab_nil)).b qint.b))).b qab_nil)).b) qnon (qtup (qa_cons (qstr s_left) qa_nil)))))))))
theorem ok_agrees (T : Tb K mg α) (I : Ok P w K mg base α S n) : FnOk P w K mg base CX0 (n + 1 + 1) α.a_agrees α.d_agrees ["words", "row", "tie"] (spD S [true, true, false] (f_agrees (n + 1))) :=
  fn_ok [true, true, false] T.F_agrees sc_agrees rfl fun cdv A outer s H E hr =>
  (qs_cons (qasg [3, 4, 5] (qv 2) (qgt 3 (qgs_cons (qgv 3 sc_agrees.nd) (qgs_cons (qgv 4 sc_agrees.nd) (qgs_cons (qgv 5 sc_agrees.nd) qgs_nil)))))
  (qs_cons (qif (qw_or (qtcmp o_ge (qvb 3) (qcallB c_len (by rfl) T.z_len (by decide +kernel) (qab_cons (qvb 1) qab_nil)).b) (qw_or1 (qtcmp o_ge (qvb 4) (qcallB c_len (by rfl) T.z_len (by decide +kernel) (qab_cons (qvb 1) qab_nil)).b))).test
  (qs_one (qret qbl))
  qs_nil)
  (qs_one (qret (qcmp (o_eq (hu64 hr)) (qix (hu1 hr) (qix (hu1 hr) (qix (hu1 hr) (qvb 0) (qvb 3)).b (qix (hu1 hr) (qvb 1) (qvb 3)).b).b (qvb 5)).b (qix (hu1 hr) (qix (hu1 hr) (qix (hu1 hr) (qvb 0) (qvb 4)).b (qix (hu1 hr) (qvb 1) (qvb 4)).b).b (qvb 5)).b)))))
theorem ok_count_agreed (T : Tb K mg α) (I : Ok P w K mg base α S n) : FnOk P w K mg base CX0 (n + 1 + 1) α.a_count_agreed α.d_count_agreed ["words", "ties"] (spD S [false, true] (f_count_agreed (n + 1))) :=
  fn_ok [false, true] T.F_count_agreed sc_count_agreed rfl fun cdv A outer s H E hr =>
  (qs_cons (qset 2 sc_count_agreed.nd (qlst (qa_cons (qlst qa_nil).e qa_nil)).e)
  (qforget [3, 4, 5, 6, 7] (qs_cons (qfor [3, 4] (qi_enum imForOk (by rfl) T.z_enumerate (qv 0).xf) (qgt 2 (qgs_cons (qgv 3 sc_count_agreed.nd) (qgs_cons (qgv 4 sc_count_agreed.nd) qgs_nil)))
  (qs_cons (qsetO 5 sc_count_agreed.nd (qlst qa_nil))
  (qforget [6, 7] (qs_cons (qfor [6] (qi_any imForOk (qv 2).xf) (qgv 6 sc_count_agreed.nd)
  (qforget [7] (qs_cons (qfor [7] (qi_rg1 (by rfl) T.z_range (qcallB c_len (by rfl) T.z_len (by decide +kernel) (qab_cons (qvb 4) qab_nil)).b) (qgv 7 sc_count_agreed.nd)
  (qs_cons (qif (qtru (qcallB (c_all (by rfl)) (by rfl) T.z_all (by decide +kernel) (qab_cons (qlc [("tie", 8)] sc_count_agreed.nd (qi_any (imCompOk _) (qvb 1).xc) (blkOk_by (N := N_count_agreed) (sc := defScope s_T_count_agreed) (by decide +kernel)) (fun _ _ _ _ _ => (qgv 8 sc_count_agreed.nd)) (fun _ _ _ _ _ => qts_nil) (fun _ _ _ _ _ => (qcall I.agrees hr (by rfl) T.m_agrees T.F_agrees.kp T.b_agrees (qam_b (qvb 0) (qam_b (qbin o_add (qvb 6) (qlst (qa_cons (qv 7) qa_nil)).b).b (qam_v (qv 8) qam_nil)))))).b qab_nil)).b)
  (qs_cons (qappend 5 (qbin o_add (qvb 6) (qlst (qa_cons (qv 7) qa_nil)).b)) (qforget [] qs_nil))
  (qforget [] qs_nil)) (qforget [7] qs_nil))) (qforget [6, 7] qs_nil))))
  (qfrz 5 (qs_cons (qset 2 sc_count_agreed.nd (qv 5)) (qforget [3, 4, 5, 6, 7] qs_nil)))))))
  (qs_one (qret (qcallB c_len (by rfl) T.z_len (by decide +kernel) (qab_cons (qvb 2) qab_nil)))))))
theorem ok_goes (T : Tb K mg α) (I : Ok P w K mg base α S n) : FnOk P w K mg base CX0 (n + 1 + 1) α.a_goes α.d_goes ["one", "node", "feature"] (spD S [true, true, true] (f_goes (n + 1))) :=
  fn_ok [true, true, true] T.F_goes sc_goes rfl fun cdv A outer s H E hr =>
  (qforget [3, 4] (qs_cons (qfor [3, 4] (qi_any imForOk (qix (hu1 hr) (qix (hu1 hr) (qvb 0) (qvb 1)).b qint.b).xf) (qgt 2 (qgs_cons (qgv 3 sc_goes.nd) (qgs_cons (qgv 4 sc_goes.nd) qgs_nil)))
  (qs_cons (qif (qtcmp (o_eq (hu64 hr)) (qvb 3) (qvb 2))
  (qs_one (qret (qv 4)))
  qs_nil) (qforget [3, 4] qs_nil)))
  (qs_one (qret qnon))))
theorem ok_all_nodes (T : Tb K mg α) (I : Ok P w K mg base α S n) : FnOk P w K mg base CX0 (n + 1 + 1) α.a_all_nodes α.d_all_nodes ["both"] (spD S [true] (f_all_nodes (n + 1))) :=
  fn_ok [true] T.F_all_nodes sc_all_nodes rfl fun cdv A outer s H E hr =>
  (qs_cons (qset 1 sc_all_nodes.nd (qcallB c_len (by rfl) T.z_len (by decide +kernel) (qab_cons (qix (hu1 hr) (qvb 0) qint.b).b qab_nil)))
  (qs_cons (qsetO 2 sc_all_nodes.nd (qcallTF c_list (by rfl) T.z_list (by decide +kernel) (qab_cons (qix (hu1 hr) (qvb 0) qint.b).b qab_nil)))
  (qforget [3, 4] (qs_cons (qfor [3, 4] (qi_any imForOk (qix (hu1 hr) (qvb 0) qint.b).xf) (qgt 2 (qgs_cons (qgv 3 sc_all_nodes.nd) (qgs_cons (qgv 4 sc_all_nodes.nd) qgs_nil)))
  (qs_cons (qappend 2 (qtup (qa_cons (qv 3) (qa_cons (qcallT c_tuple (by rfl) T.z_tuple (by decide +kernel) (qab_cons (qlc [("name", 5), ("node", 6)] sc_all_nodes.nd (qi_any (imCompOk _) (qvb 4).xc) (blkOk_by (N := N_all_nodes) (sc := defScope s_T_all_nodes) (by decide +kernel)) (fun _ _ _ _ _ => (qgt 2 (qgs_cons (qgv 5 sc_all_nodes.nd) (qgs_cons (qgv 6 sc_all_nodes.nd) qgs_nil)))) (fun _ _ _ _ _ => qts_nil) (fun _ _ _ _ _ => (qtup (qa_cons (qv 5) (qa_cons (qbin o_add (qvb 6) (qvb 1)) qa_nil))))).b qab_nil)) qa_nil)))) (qforget [3, 4] qs_nil)))
  (qfrz 2 (qs_one (qret (qv 2))))))))
theorem ok_clash_of (T : Tb K mg α) (I : Ok P w K mg base α S n) : FnOk P w K mg base CX0 (n + 1 + 1) α.a_clash_of α.d_clash_of ["nodes", "one", "other"] (spD S [true, true, true] (f_clash_of (n + 1))) :=
  fn_ok [true, true, true] T.F_clash_of sc_clash_of rfl fun cdv A outer s H E hr =>
  (qs_cons (qpar 3 4 sc_clash_of.nd (qa_cons (qix (hu1 hr) (qvb 0) (qvb 1)) (qa_cons (qix (hu1 hr) (qvb 0) (qvb 2)) qa_nil)))
  (qs_cons (qif (qw_and (qtcmp o_isNot (qix (hu1 hr) (qvb 3) qint.b).b qnon.b) (qw_and (qtcmp o_isNot (qix (hu1 hr) (qvb 4) qint.b).b qnon.b) (qw_and1 (qtcmp (o_ne (hu64 hr)) (qix (hu1 hr) (qvb 3) qint.b).b (qix (hu1 hr) (qvb 4) qint.b).b)))).test
  (qs_one (qret qbl))
  qs_nil)
  (qs_one (qret (qorV (qandV (qcmp o_isNot (qix (hu1 hr) (qvb 3) qint.b).b qnon.b) (qe_one (qcmp o_gt (qcallB c_len (by rfl) T.z_len (by decide +kernel) (qab_cons (qix (hu1 hr) (qvb 4) qint.b).b qab_nil)).b qint.b))) (qe_one (qandV (qcmp o_isNot (qix (hu1 hr) (qvb 4) qint.b).b qnon.b) (qe_one (qcmp o_gt (qcallB c_len (by rfl) T.z_len (by decide +kernel) (qab_cons (qix (hu1 hr) (qvb 3) qint.b).b qab_nil)).b qint.b)))))))))
theorem ok_steps_from (T : Tb K mg α) (I : Ok P w K mg base α S n) : FnOk P w K mg base CX0 (n + 1 + 1) α.a_steps_from α.d_steps_from ["nodes", "many"] (spD S [true, false] (f_steps_from (n + 1))) :=
  fn_ok [true, false] T.F_steps_from sc_steps_from rfl fun cdv A outer s H E hr =>
  (qs_cons (qsetO 2 sc_steps_from.nd (qlst (qa_cons (qtup (qa_cons qint (qa_cons (qv 1) qa_nil))) qa_nil)))
  (qs_cons (qsetO 3 sc_steps_from.nd (qlst (qa_cons (qtup (qa_cons (qstr s_roots) qa_nil)) qa_nil)))
  (qs_cons (qsetO 4 sc_steps_from.nd (qdispN I.hS (hu64 hr) (qtup (qa_cons qint (qa_cons (qv 1) qa_nil))).b qint))
  (qs_cons (qset 5 sc_steps_from.nd qint)
  (qforget [6, 7, 8, 9, 10, 11, 12, 13, 14] (qs_cons (qwhile 100 (qtcmp o_lt (qvb 5) (qcallB c_len (by rfl) T.z_len (by decide +kernel) (qab_cons (qvb 2) qab_nil)).b)
  (qs_cons (qasg [8, 9] (qix (hu1 hr) (qvb 2) (qvb 5)) (qgt 2 (qgs_cons (qgv 8 sc_steps_from.nd) (qgs_cons (qgv 9 sc_steps_from.nd) qgs_nil))))
  (qs_cons (qsetO 6 sc_steps_from.nd (qlst (qa_cons (qtup (qa_cons (qtup (qa_cons (qv 9) (qa_cons (qv 8) qa_nil))) (qa_cons (qtup (qa_cons (qstr s_turned) (qa_cons (qv 5) qa_nil))) qa_nil))) qa_nil)))
  (qforget [10, 11, 12] (qs_cons (qfor [10, 11] (qi_any imForOk (qix (hu1 hr) (qix (hu1 hr) (qvb 0) (qvb 8)).b qint.b).xf) (qgt 2 (qgs_cons (qgv 10 sc_steps_from.nd) (qgs_cons (qgv 11 sc_steps_from.nd) qgs_nil)))
  (qs_cons (qset 12 sc_steps_from.nd (qcall I.goes hr (by rfl) T.m_goes T.F_goes.kp T.b_goes (qam_b (qvb 0) (qam_b (qvb 9) (qam_b (qvb 10) qam_nil)))))
  (qs_cons (qif (qtcmp o_isNot (qvb 12) qnon.b)
  (qs_cons (qappend 6 (qtup (qa_cons (qtup (qa_cons (qv 11) (qa_cons (qv 12) qa_nil))) (qa_cons (qtup (qa_cons (qstr s_down) (qa_cons (qv 5) (qa_cons (qv 10) qa_nil)))) qa_nil)))) (qforget [] qs_nil))
  (qforget [] qs_nil)) (qforget [10, 11, 12] qs_nil))))
  (qforget [7] (qs_cons (qfor [7] (qi_rg1 (by rfl) T.z_range (qbin o_add (qvb 5) qint.b).b) (qgv 7 sc_steps_from.nd)
  (qs_cons (qif (qtcmp (o_eq (hu64 hr)) (qix (hu1 hr) (qix (hu1 hr) (qvb 2) (qvb 7)).b qint.b).b (qvb 8))
  (qs_cons (qappend 6 (qtup (qa_cons (qtup (qa_cons (qix (hu1 hr) (qix (hu1 hr) (qvb 2) (qvb 7)).b qint.b) (qa_cons (qv 9) qa_nil))) (qa_cons (qtup (qa_cons (qstr s_chain) (qa_cons (qv 7) (qa_cons (qv 5) qa_nil)))) qa_nil)))) (qforget [] qs_nil))
  (qforget [] qs_nil))
  (qs_cons (qif (qtcmp (o_eq (hu64 hr)) (qix (hu1 hr) (qix (hu1 hr) (qvb 2) (qvb 7)).b qint.b).b (qvb 9))
  (qs_cons (qappend 6 (qtup (qa_cons (qtup (qa_cons (qv 8) (qa_cons (qix (hu1 hr) (qix (hu1 hr) (qvb 2) (qvb 7)).b qint.b) qa_nil))) (qa_cons (qtup (qa_cons (qstr s_chain) (qa_cons (qv 5) (qa_cons (qv 7) qa_nil)))) qa_nil)))) (qforget [] qs_nil))
  (qforget [] qs_nil)) (qforget [7] qs_nil))))
  (qfrz 6 (qforget [13, 14] (qs_cons (qfor [13, 14] (qi_any imForOk (qv 6).xf) (qgt 2 (qgs_cons (qgv 13 sc_steps_from.nd) (qgs_cons (qgv 14 sc_steps_from.nd) qgs_nil)))
  (qs_cons (qif (qw_and (qtcmp (o_notInN I.hS (hu64 hr)) (qvb 13) (qvb 4)) (qw_and1 (qtcmp (o_ne (hu64 hr)) (qix (hu1 hr) (qvb 13) qint.b).b (qix (hu1 hr) (qvb 13) qint.b).b))).test
  (qs_cons (qputN 4 I.hS (hu64 hr) (qvb 13) (qcallB c_len (by rfl) T.z_len (by decide +kernel) (qab_cons (qvb 2) qab_nil)))
  (qs_cons (qappend 2 (qv 13))
  (qs_cons (qappend 3 (qv 14)) (qforget [] qs_nil))))
  (qforget [] qs_nil)) (qforget [13, 14] qs_nil)))
  (qs_cons (qset 5 sc_steps_from.nd (qbin o_add (qvb 5) qint.b)) (qforget [6, 7, 8, 9, 10, 11, 12, 13, 14] qs_nil))))))))))))
  (qfrz 3 (qfrz 2 (qs_one (qret (qtup (qa_cons (qv 2) (qa_cons (qv 3) qa_nil)))))))))))))
theorem ok_needed_steps (T : Tb K mg α) (I : Ok P w K mg base α S n) : FnOk P w K mg base CX0 (n + 1 + 1) α.a_needed_steps α.d_needed_steps ["steps", "last"] (spD S [true, true] (f_needed_steps (n + 1))) :=
  fn_ok [true, true] T.F_needed_steps sc_needed_steps rfl fun cdv A outer s H E hr =>
  (qs_cons (qsetO 2 sc_needed_steps.nd (qdispK (qvb 1) qbl))
  (qforget [3, 7] (qs_cons (qfor [3] (qi_rg3 (by rfl) T.z_range (qvb 1) (qneg qint.b).b (qneg qint.b).b) (qgv 3 sc_needed_steps.nd)
  (qs_cons (qif (qtcmp (o_inX (hu65 hr)) (qvb 3) (qvb 2))
  (qforget [7] (qs_cons (qfor [7] (qi_any imForOk (qsl (qix (hu1 hr) (qvb 0) (qvb 3)).b (qo_some qint.b) qo_none).xf) (qgv 7 sc_needed_steps.nd)
  (qs_cons (qif (qw_or (qtcmp (o_inX (hu65 hr)) (qix (hu1 hr) (qix (hu1 hr) (qvb 0) (qvb 3)).b qint.b).b (qtup (qa_cons (qstr s_turned) (qa_cons (qstr s_chain) qa_nil))).b) (qw_or1 (qw_and (qtcmp (o_eq (hu64 hr)) (qix (hu1 hr) (qix (hu1 hr) (qvb 0) (qvb 3)).b qint.b).b (qstr s_down).b) (qw_and1 (qtcmp (o_eq (hu64 hr)) (qvb 7) (qix (hu1 hr) (qix (hu1 hr) (qvb 0) (qvb 3)).b qint.b).b))).test)).test
  (qs_cons (qputD 2 (hu1 hr) (qvb 7) qbl) (qforget [] qs_nil))
  (qforget [] qs_nil)) (qforget [7] qs_nil))) (qforget [7] qs_nil)))
  (qforget [7] qs_nil)) (qforget [3, 7] qs_nil)))
  (qs_cons (qset 4 sc_needed_steps.nd (qdc [("place", 8), ("at", 3)] sc_needed_steps.nd (qi_enum (imCompOk _) (by rfl) T.z_enumerate (qcallBF (c_sortedK rfl (hu64 hr)) (by rfl) T.z_sorted (by decide +kernel) (qab_cons (qvb 2) qab_nil)).b.xc) (blkOk_by (N := N_needed_steps) (sc := defScope s_T_needed_steps) (by decide +kernel)) (fun _ _ _ _ _ => (qgt 2 (qgs_cons (qgv 8 sc_needed_steps.nd) (qgs_cons (qgv 3 sc_needed_steps.nd) qgs_nil)))) (fun _ _ _ _ _ => qts_nil) (fun _ _ _ _ _ => (qvb 3)) (fun _ _ _ _ _ => (qv 8))).e)
  (qs_cons (qsetO 5 sc_needed_steps.nd (qlst qa_nil))
  (qforget [3, 6] (qs_cons (qfor [3] (qi_any imForOk (qcallBF (c_sortedK rfl (hu64 hr)) (by rfl) T.z_sorted (by decide +kernel) (qab_cons (qvb 2) qab_nil)).e.xf) (qgv 3 sc_needed_steps.nd)
  (qs_cons (qset 6 sc_needed_steps.nd (qix (hu1 hr) (qvb 0) (qvb 3)))
  (qs_cons (qif (qtcmp (o_eq (hu64 hr)) (qix (hu1 hr) (qvb 6) qint.b).b (qstr s_down).b)
  (qs_cons (qappend 5 (qtup (qa_cons (qstr s_down) (qa_cons (qix (hu1 hr) (qvb 4) (qix (hu1 hr) (qvb 6) qint.b).b) (qa_cons (qix (hu1 hr) (qvb 6) qint.b) qa_nil))))) (qforget [] qs_nil))
  (qs_cons (qappend 5 (qbin o_add (qtup (qa_cons (qix (hu1 hr) (qvb 6) qint.b) qa_nil)).b (qcallT c_tuple (by rfl) T.z_tuple (by decide +kernel) (qab_cons (qlc [("part", 7)] sc_needed_steps.nd (qi_any (imCompOk _) (qsl (qvb 6) (qo_some qint.b) qo_none).b.xc) (blkOk_by (N := N_needed_steps) (sc := defScope s_T_needed_steps) (by decide +kernel)) (fun _ _ _ _ _ => (qgv 7 sc_needed_steps.nd)) (fun _ _ _ _ _ => qts_nil) (fun _ _ _ _ _ => (qix (hu1 hr) (qvb 4) (qvb 7)))).b qab_nil)).b)) (qforget [] qs_nil))) (qforget [3, 6] qs_nil))))
  (qfrz 5 (qs_one (qret (qv 5)))))))))))
theorem ok_merged_features (T : Tb K mg α) (I : Ok P w K mg base α S n) : FnOk P w K mg base CX0 (n + 1 + 1) α.a_merged_features α.d_merged_features ["nodes", "groups", "group"] (spD S [true, true, true] (f_merged_features (n + 1))) :=
  fn_ok [true, true, true] T.F_merged_features sc_merged_features rfl fun cdv A outer s H E hr =>
  (qs_cons (qsetO 3 sc_merged_features.nd qnewK)
  (qforget [4, 5, 6] (qs_cons (qfor [4] (qi_rg1 (by rfl) T.z_range (qcallB c_len (by rfl) T.z_len (by decide +kernel) (qab_cons (qvb 0) qab_nil)).b) (qgv 4 sc_merged_features.nd)
  (qs_cons (qif (qtcmp (o_eq (hu64 hr)) (qix (hu1 hr) (qvb 1) (qvb 4)).b (qvb 2))
  (qforget [5, 6] (qs_cons (qfor [5, 6] (qi_any imForOk (qix (hu1 hr) (qix (hu1 hr) (qvb 0) (qvb 4)).b qint.b).xf) (qgt 2 (qgs_cons (qgv 5 sc_merged_features.nd) (qgs_cons (qgv 6 sc_merged_features.nd) qgs_nil)))
  (qs_cons (qputD 3 (hu1 hr) (qvb 5) (qix (hu1 hr) (qvb 1) (qvb 6))) (qforget [5, 6] qs_nil))) (qforget [5, 6] qs_nil)))
  (qforget [5, 6] qs_nil)) (qforget [4, 5, 6] qs_nil)))
  (qs_one (qret (qsortIt 3 rfl (hu64 hr) (by rfl) T.z_sorted).e)))))
theorem ok_made_one (T : Tb K mg α) (I : Ok P w K mg base α S n) : FnOk P w K mg base CX0 (n + 1 + 1) α.a_made_one α.d_made_one ["one", "other"] (spD S [false, false] (f_made_one (n + 1))) :=
  fn_ok [false, false] T.F_made_one sc_made_one rfl fun cdv A outer s H E hr =>
  (qs_cons (qset 2 sc_made_one.nd (qcall I.all_nodes hr (by rfl) T.m_all_nodes T.F_all_nodes.kp T.b_all_nodes (qam_b (qtup (qa_cons (qv 0) (qa_cons (qv 1) qa_nil))).b qam_nil)))
  (qs_cons (qasg [11, 12] (qcall I.steps_from hr (by rfl) T.m_steps_from T.F_steps_from.kp T.b_steps_from (qam_b (qvb 2) (qam_v (qcallB c_len (by rfl) T.z_len (by decide +kernel) (qab_cons (qvb 0) qab_nil)) qam_nil))) (qgt 2 (qgs_cons (qgv 11 sc_made_one.nd) (qgs_cons (qgv 12 sc_made_one.nd) qgs_nil))))
  (qforget [6, 15, 16] (qs_cons (qfor [6, 15, 16] (qi_enum imForOk (by rfl) T.z_enumerate (qv 11).xf) (qgt 2 (qgs_cons (qgv 6 sc_made_one.nd) (qgs_cons (qgt 2 (qgs_cons (qgv 15 sc_made_one.nd) (qgs_cons (qgv 16 sc_made_one.nd) qgs_nil))) qgs_nil)))
  (qs_cons (qif (qtru (qcall I.clash_of hr (by rfl) T.m_clash_of T.F_clash_of.kp T.b_clash_of (qam_b (qvb 2) (qam_b (qvb 15) (qam_b (qvb 16) qam_nil)))).b)
  (qs_one (qret (qtup (qa_cons (qstr s_clash) (qa_cons (qcall I.needed_steps hr (by rfl) T.m_needed_steps T.F_needed_steps.kp T.b_needed_steps (qam_b (qvb 12) (qam_b (qvb 6) qam_nil))) qa_nil)))))
  qs_nil) (qforget [6, 15, 16] qs_nil)))
  (qs_cons (qsetO 3 sc_made_one.nd qnewK)
  (qforget [4] (qs_cons (qfor [4] (qi_rg1 (by rfl) T.z_range (qcallB c_len (by rfl) T.z_len (by decide +kernel) (qab_cons (qvb 2) qab_nil)).b) (qgv 4 sc_made_one.nd)
  (qs_cons (qputD 3 (hu1 hr) (qvb 4) (qcallB (c_min (by rfl)) (by rfl) T.z_min (by decide +kernel) (qab_cons (qbin o_add (qlst (qa_cons (qv 4) qa_nil)).b (qlc [("left", 15), ("right", 16)] sc_made_one.nd (qi_any (imCompOk _) (qvb 11).xc) (blkOk_by (N := N_made_one) (sc := defScope s_T_made_one) (by decide +kernel)) (fun _ _ _ _ _ => (qgt 2 (qgs_cons (qgv 15 sc_made_one.nd) (qgs_cons (qgv 16 sc_made_one.nd) qgs_nil)))) (fun _ _ _ _ _ => (qts_one (qtcmp (o_eq (hu64 hr)) (qvb 16) (qvb 4)))) (fun _ _ _ _ _ => (qv 15))).b).b qab_nil))) (qforget [4] qs_nil)))
  (qs_cons (qsetO 5 sc_made_one.nd (qlst (qa_cons qint qa_nil)))
  (qs_cons (qset 6 sc_made_one.nd qint)
  (qforget [17, 18] (qs_cons (qwhile 100 (qtcmp o_lt (qvb 6) (qcallB c_len (by rfl) T.z_len (by decide +kernel) (qab_cons (qvb 5) qab_nil)).b)
  (qforget [17, 18] (qs_cons (qfor [17, 18] (qi_any imForOk (qcall I.merged_features hr (by rfl) T.m_merged_features T.F_merged_features.kp T.b_merged_features (qam_b (qvb 2) (qam_b (qvb 3) (qam_b (qix (hu1 hr) (qvb 5) (qvb 6)).b qam_nil)))).xf) (qgt 2 (qgs_cons (qgv 17 sc_made_one.nd) (qgs_cons (qgv 18 sc_made_one.nd) qgs_nil)))
  (qs_cons (qif (qtcmp (o_notInX (hu65 hr)) (qvb 18) (qvb 5))
  (qs_cons (qappend 5 (qv 18)) (qforget [] qs_nil))
  (qforget [] qs_nil)) (qforget [17, 18] qs_nil)))
  (qs_cons (qset 6 sc_made_one.nd (qbin o_add (qvb 6) qint.b)) (qforget [17, 18] qs_nil)))))
  (qs_cons (qset 7 sc_made_one.nd (qdc [("place", 19), ("group", 9)] sc_made_one.nd (qi_enum (imCompOk _) (by rfl) T.z_enumerate (qvb 5).xc) (blkOk_by (N := N_made_one) (sc := defScope s_T_made_one) (by decide +kernel)) (fun _ _ _ _ _ => (qgt 2 (qgs_cons (qgv 19 sc_made_one.nd) (qgs_cons (qgv 9 sc_made_one.nd) qgs_nil)))) (fun _ _ _ _ _ => qts_nil) (fun _ _ _ _ _ => (qvb 9)) (fun _ _ _ _ _ => (qv 19))).e)
  (qs_cons (qsetO 8 sc_made_one.nd (qlst qa_nil))
  (qfrz 5 (qforget [9, 13, 14] (qs_cons (qfor [9] (qi_any imForOk (qv 5).xf) (qgv 9 sc_made_one.nd)
  (qs_cons (qsetLcV 13 [("node", 4)] sc_made_one.nd (qi_rg1 (by rfl) T.z_range (qcallB c_len (by rfl) T.z_len (by decide +kernel) (qab_cons (qvb 2) qab_nil)).b) (blkOk_by (N := N_made_one) (sc := defScope s_T_made_one) (by decide +kernel)) (fun _ _ _ _ _ => (qgv 4 sc_made_one.nd)) (fun _ _ _ _ _ => (qts_one (qw_and (qtcmp (o_eq (hu64 hr)) (qix (hu1 hr) (qvb 3) (qvb 4)).b (qvb 9)) (qw_and1 (qtcmp o_isNot (qix (hu1 hr) (qix (hu1 hr) (qvb 2) (qvb 4)).b qint.b).b qnon.b))).test)) (fun _ _ _ _ _ => (qix (hu1 hr) (qix (hu1 hr) (qvb 2) (qvb 4)).b qint.b)) (sw_true rfl rfl rfl (by decide +kernel)))
  (qs_cons (qsetLcV 14 [("name", 17), ("there", 18)] sc_made_one.nd (qi_any (imCompOk _) (qcall I.merged_features hr (by rfl) T.m_merged_features T.F_merged_features.kp T.b_merged_features (qam_b (qvb 2) (qam_b (qvb 3) (qam_b (qvb 9) qam_nil)))).b.xc) (blkOk_by (N := N_made_one) (sc := defScope s_T_made_one) (by decide +kernel)) (fun _ _ _ _ _ => (qgt 2 (qgs_cons (qgv 17 sc_made_one.nd) (qgs_cons (qgv 18 sc_made_one.nd) qgs_nil)))) (fun _ _ _ _ _ => qts_nil) (fun _ _ _ _ _ => (qtup (qa_cons (qv 17) (qa_cons (qix (hu1 hr) (qvb 7) (qvb 18)) qa_nil)))) (sw_true rfl rfl rfl (by decide +kernel)))
  (qs_cons (qappend 8 (qtup (qa_cons (qifE (qtru (qvb 13)) (qix (hu1 hr) (qvb 13) qint.b) qnon) (qa_cons (qcallT c_tuple (by rfl) T.z_tuple (by decide +kernel) (qab_cons (qvb 14) qab_nil)) qa_nil)))) (qforget [9, 13, 14] qs_nil)))))
  (qs_cons (qsetLcV 10 [("node", 4)] sc_made_one.nd (qi_rg1 (by rfl) T.z_range (qcallB c_len (by rfl) T.z_len (by decide +kernel) (qab_cons (qvb 0) qab_nil)).b) (blkOk_by (N := N_made_one) (sc := defScope s_T_made_one) (by decide +kernel)) (fun _ _ _ _ _ => (qgv 4 sc_made_one.nd)) (fun _ _ _ _ _ => qts_nil) (fun _ _ _ _ _ => (qget2 (hu1 hr) (qvb 7) (qix (hu1 hr) (qvb 3) (qvb 4)).b qnon)) (sw_true rfl rfl rfl (by decide +kernel)))
  (qfrz 8 (qs_one (qret (qtup (qa_cons (qstr s_one) (qa_cons (qv 8) (qa_cons (qv 10) (qa_cons (qlc [("node", 4)] sc_made_one.nd (qi_rg1 (by rfl) T.z_range (qcallB c_len (by rfl) T.z_len (by decide +kernel) (qab_cons (qvb 1) qab_nil)).b) (blkOk_by (N := N_made_one) (sc := defScope s_T_made_one) (by decide +kernel)) (fun _ _ _ _ _ => (qgv 4 sc_made_one.nd)) (fun _ _ _ _ _ => qts_nil) (fun _ _ _ _ _ => (qget2 (hu1 hr) (qvb 7) (qix (hu1 hr) (qvb 3) (qbin o_add (qvb 4) (qcallB c_len (by rfl) T.z_len (by decide +kernel) (qab_cons (qvb 0) qab_nil)).b).b).b qnon))).e qa_nil)))))))))))))))))))))))))
theorem ok_pairs_by (T : Tb K mg α) (I : Ok P w K mg base α S n) : FnOk P w K mg base CX0 (n + 1 + 1) α.a_pairs_by α.d_pairs_by ["nodes", "many", "steps"] (spD S [true, false, false] (f_pairs_by (n + 1))) :=
  fn_ok [true, false, false] T.F_pairs_by sc_pairs_by rfl fun cdv A outer s H E hr =>
  (qs_cons (qsetO 3 sc_pairs_by.nd (qlst qa_nil))
  (qforget [4, 5, 6, 8, 9, 10] (qs_cons (qfor [4, 5] (qi_enum imForOk (by rfl) T.z_enumerate (qv 2).xf) (qgt 2 (qgs_cons (qgv 4 sc_pairs_by.nd) (qgs_cons (qgv 5 sc_pairs_by.nd) qgs_nil)))
  (qs_cons (qset 6 sc_pairs_by.nd qnon)
  (qs_cons (qif (qtcmp (o_eq (hu64 hr)) (qix (hu1 hr) (qvb 5) qint.b).b (qstr s_roots).b)
  (qs_cons (qset 6 sc_pairs_by.nd (qtup (qa_cons qint (qa_cons (qv 1) qa_nil)))) (qforget [8, 9, 10] qs_nil))
  (qs_cons (qif (qtru (qcallB (c_all (by rfl)) (by rfl) T.z_all (by decide +kernel) (qab_cons (qlc [("part", 7)] sc_pairs_by.nd (qi_any (imCompOk _) (qsl (qvb 5) (qo_some qint.b) qo_none).b.xc) (blkOk_by (N := N_pairs_by) (sc := defScope s_T_pairs_by) (by decide +kernel)) (fun _ _ _ _ _ => (qgv 7 sc_pairs_by.nd)) (fun _ _ _ _ _ => (qts_one (qw_or (qtcmp (o_ne (hu64 hr)) (qvb 7) (qix (hu1 hr) (qvb 5) (qneg qint.b).b).b) (qw_or1 (qtcmp (o_ne (hu64 hr)) (qix (hu1 hr) (qvb 5) qint.b).b (qstr s_down).b))).test)) (fun _ _ _ _ _ => (qchain o_le o_lt qint.b (qvb 7) (qvb 4)))).b qab_nil)).b)
  (qs_cons (qif (qtcmp (o_eq (hu64 hr)) (qix (hu1 hr) (qvb 5) qint.b).b (qstr s_turned).b)
  (qs_cons (qset 6 sc_pairs_by.nd (qtup (qa_cons (qix (hu1 hr) (qix (hu1 hr) (qvb 3) (qix (hu1 hr) (qvb 5) qint.b).b).b qint.b) (qa_cons (qix (hu1 hr) (qix (hu1 hr) (qvb 3) (qix (hu1 hr) (qvb 5) qint.b).b).b qint.b) qa_nil)))) (qforget [8, 9, 10] qs_nil))
  (qs_cons (qif (qw_and (qtcmp (o_eq (hu64 hr)) (qix (hu1 hr) (qvb 5) qint.b).b (qstr s_chain).b) (qw_and1 (qtcmp (o_eq (hu64 hr)) (qix (hu1 hr) (qix (hu1 hr) (qvb 3) (qix (hu1 hr) (qvb 5) qint.b).b).b qint.b).b (qix (hu1 hr) (qix (hu1 hr) (qvb 3) (qix (hu1 hr) (qvb 5) qint.b).b).b qint.b).b))).test
  (qs_cons (qset 6 sc_pairs_by.nd (qtup (qa_cons (qix (hu1 hr) (qix (hu1 hr) (qvb 3) (qix (hu1 hr) (qvb 5) qint.b).b).b qint.b) (qa_cons (qix (hu1 hr) (qix (hu1 hr) (qvb 3) (qix (hu1 hr) (qvb 5) qint.b).b).b qint.b) qa_nil)))) (qforget [8, 9, 10] qs_nil))
  (qs_cons (qif (qtcmp (o_eq (hu64 hr)) (qix (hu1 hr) (qvb 5) qint.b).b (qstr s_down).b)
  (qs_cons (qasg [9, 10] (qix (hu1 hr) (qvb 3) (qix (hu1 hr) (qvb 5) qint.b).b) (qgt 2 (qgs_cons (qgv 9 sc_pairs_by.nd) (qgs_cons (qgv 10 sc_pairs_by.nd) qgs_nil))))
  (qs_cons (qset 8 sc_pairs_by.nd (qtup (qa_cons (qcall I.goes hr (by rfl) T.m_goes T.F_goes.kp T.b_goes (qam_b (qvb 0) (qam_b (qvb 9) (qam_b (qix (hu1 hr) (qvb 5) qint.b).b qam_nil)))) (qa_cons (qcall I.goes hr (by rfl) T.m_goes T.F_goes.kp T.b_goes (qam_b (qvb 0) (qam_b (qvb 10) (qam_b (qix (hu1 hr) (qvb 5) qint.b).b qam_nil)))) qa_nil))))
  (qs_cons (qset 6 sc_pairs_by.nd (qifE (qtcmp (o_notInX (hu65 hr)) qnon.b (qvb 8)) (qv 8) qnon)) (qforget [8, 9, 10] qs_nil))))
  (qforget [8, 9, 10] qs_nil)) (qforget [8, 9, 10] qs_nil))) (qforget [8, 9, 10] qs_nil))) (qforget [8, 9, 10] qs_nil))
  (qforget [8, 9, 10] qs_nil)) (qforget [8, 9, 10] qs_nil)))
  (qs_cons (qif (qtcmp o_is (qvb 6) qnon.b)
  (qs_one (qret (qv 4)))
  qs_nil)
  (qs_cons (qappend 3 (qv 6)) (qforget [4, 5, 6, 8, 9, 10] qs_nil))))))
  (qfrz 3 (qs_one (qret (qv 3)))))))
theorem ok_more_general (T : Tb K mg α) (I : Ok P w K mg base α S n) : FnOk P w K mg base CX0 (n + 1 + 1) α.a_more_general α.d_more_general ["one", "other"] (spD S [true, true] (f_more_general (n + 1))) :=
  fn_ok [true, true] T.F_more_general sc_more_general rfl fun cdv A outer s H E hr =>
  (qs_cons (qsetO 2 sc_more_general.nd (qdispK qint.b qint))
  (qs_cons (qsetO 3 sc_more_general.nd (qlst (qa_cons qint qa_nil)))
  (qforget [4, 5, 6, 7, 8] (qs_cons (qwhile 100 (qtru (qvb 3))
  (qs_cons (qpop0 4 3 sc_more_general.nd)
  (qs_cons (qset 5 sc_more_general.nd (qix (hu1 hr) (qvb 2) (qvb 4)))
  (qs_cons (qif (qw_and (qtcmp o_isNot (qix (hu1 hr) (qix (hu1 hr) (qvb 0) (qvb 4)).b qint.b).b qnon.b) (qw_and1 (qtcmp (o_ne (hu64 hr)) (qix (hu1 hr) (qix (hu1 hr) (qvb 0) (qvb 4)).b qint.b).b (qix (hu1 hr) (qix (hu1 hr) (qvb 1) (qvb 5)).b qint.b).b))).test
  (qs_one (qret qnon))
  qs_nil)
  (qforget [6, 7, 8] (qs_cons (qfor [6, 7] (qi_any imForOk (qix (hu1 hr) (qix (hu1 hr) (qvb 0) (qvb 4)).b qint.b).xf) (qgt 2 (qgs_cons (qgv 6 sc_more_general.nd) (qgs_cons (qgv 7 sc_more_general.nd) qgs_nil)))
  (qs_cons (qset 8 sc_more_general.nd (qcall I.goes hr (by rfl) T.m_goes T.F_goes.kp T.b_goes (qam_b (qvb 1) (qam_b (qvb 5) (qam_b (qvb 6) qam_nil)))))
  (qs_cons (qif (qw_or (qtcmp o_is (qvb 8) qnon.b) (qw_or1 (qtcmp (o_ne (hu64 hr)) (qget2 (hu1 hr) (qvb 2) (qvb 7) (qv 8)).b (qvb 8)))).test
  (qs_one (qret qnon))
  qs_nil)
  (qs_cons (qif (qtcmp (o_notInX (hu65 hr)) (qvb 7) (qvb 2))
  (qs_cons (qputD 2 (hu1 hr) (qvb 7) (qv 8))
  (qs_cons (qappend 3 (qv 7)) (qforget [] qs_nil)))
  (qforget [] qs_nil)) (qforget [6, 7, 8] qs_nil))))) (qforget [4, 5, 6, 7, 8] qs_nil)))))))
  (qs_one (qret (qlc [("node", 4)] sc_more_general.nd (qi_rg1 (by rfl) T.z_range (qcallB c_len (by rfl) T.z_len (by decide +kernel) (qab_cons (qvb 0) qab_nil)).b) (blkOk_by (N := N_more_general) (sc := defScope s_T_more_general) (by decide +kernel)) (fun _ _ _ _ _ => (qgv 4 sc_more_general.nd)) (fun _ _ _ _ _ => qts_nil) (fun _ _ _ _ _ => (qget2 (hu1 hr) (qvb 2) (qvb 4) qnon))).e))))))
theorem ok_is_structure (T : Tb K mg α) (I : Ok P w K mg base α S n) : FnOk P w K mg base CX0 (n + 1 + 1) α.a_is_structure α.d_is_structure ["rows"] (spD S [false] (f_is_structure (n + 1))) :=
  fn_ok [false] T.F_is_structure sc_is_structure rfl fun cdv A outer s H E hr =>
  (qs_cons (qif (qt_not (qtru (qvb 0)))
  (qs_one (qret qbl))
  qs_nil)
  (qforget [1, 2, 3, 4] (qs_cons (qfor [1, 2] (qi_any imForOk (qv 0).xf) (qgt 2 (qgs_cons (qgv 1 sc_is_structure.nd) (qgs_cons (qgv 2 sc_is_structure.nd) qgs_nil)))
  (qs_cons (qsetLcV 3 [("name", 5), ("node", 6)] sc_is_structure.nd (qi_any (imCompOk _) (qvb 2).xc) (blkOk_by (N := N_is_structure) (sc := defScope s_T_is_structure) (by decide +kernel)) (fun _ _ _ _ _ => (qgt 2 (qgs_cons (qgv 5 sc_is_structure.nd) (qgs_cons (qgv 6 sc_is_structure.nd) qgs_nil)))) (fun _ _ _ _ _ => qts_nil) (fun _ _ _ _ _ => (qv 5)) (sw_true rfl rfl rfl (by decide +kernel)))
  (qs_cons (qset 4 sc_is_structure.nd (qcallB (c_all (by rfl)) (by rfl) T.z_all (by decide +kernel) (qab_cons (qlc [("name", 5), ("node", 6)] sc_is_structure.nd (qi_any (imCompOk _) (qvb 2).xc) (blkOk_by (N := N_is_structure) (sc := defScope s_T_is_structure) (by decide +kernel)) (fun _ _ _ _ _ => (qgt 2 (qgs_cons (qgv 5 sc_is_structure.nd) (qgs_cons (qgv 6 sc_is_structure.nd) qgs_nil)))) (fun _ _ _ _ _ => qts_nil) (fun _ _ _ _ _ => (qchain o_le o_lt qint.b (qvb 6) (qcallB c_len (by rfl) T.z_len (by decide +kernel) (qab_cons (qvb 0) qab_nil)).b))).b qab_nil)))
  (qs_cons (qif (qw_or (qtcmp (o_ne (hu64 hr)) (qvb 3) (qsortSetS rfl (hu64 hr) (by rfl) T.z_sorted (by rfl) T.z_set (qvb 3)).b) (qw_or (qt_not (qtru (qvb 4))) (qw_or1 (qw_and (qtcmp o_isNot (qvb 1) qnon.b) (qw_and1 (qtru (qvb 2)))).test))).test
  (qs_one (qret qbl))
  qs_nil) (qforget [1, 2, 3, 4] qs_nil)))))
  (qs_one (qret qbl)))))
theorem ok_made_one_fault (T : Tb K mg α) (I : Ok P w K mg base α S n) : FnOk P w K mg base CX0 (n + 1 + 1) α.a_made_one_fault α.d_made_one_fault ["one", "other", "told"] (spD S [false, false, true] (f_made_one_fault (n + 1))) :=
  fn_ok [false, false, true] T.F_made_one_fault sc_made_one_fault rfl fun cdv A outer s H E hr =>
  (qs_cons (qset 3 sc_made_one_fault.nd (qcall I.all_nodes hr (by rfl) T.m_all_nodes T.F_all_nodes.kp T.b_all_nodes (qam_b (qtup (qa_cons (qv 0) (qa_cons (qv 1) qa_nil))).b qam_nil)))
  (qs_cons (qif (qtcmp (o_eq (hu64 hr)) (qix (hu1 hr) (qvb 2) qint.b).b (qstr s_clash).b)
  (qs_cons (qset 6 sc_made_one_fault.nd (qcall I.pairs_by hr (by rfl) T.m_pairs_by T.F_pairs_by.kp T.b_pairs_by (qam_b (qvb 3) (qam_v (qcallB c_len (by rfl) T.z_len (by decide +kernel) (qab_cons (qvb 0) qab_nil)) (qam_v (qix (hu1 hr) (qvb 2) qint.b) qam_nil)))))
  (qs_cons (qif (qtru (qisInt (by rfl) T.z_isinstance (by rfl) T.z_int (qvb 6)).b)
  (qs_one (qret (qtup (qa_cons (qstr s_step) (qa_cons (qv 6) qa_nil)))))
  qs_nil)
  (qs_one (qret (qifE (qw_and (qtru (qvb 6)) (qw_and1 (qtru (qcall I.clash_of hr (by rfl) T.m_clash_of T.F_clash_of.kp T.b_clash_of (qam_b (qvb 3) (qam_b (qix (hu1 hr) (qix (hu1 hr) (qvb 6) (qneg qint.b).b).b qint.b).b (qam_b (qix (hu1 hr) (qix (hu1 hr) (qvb 6) (qneg qint.b).b).b qint.b).b qam_nil)))).b))).test qnon (qtup (qa_cons (qstr s_clash) qa_nil)))))))
  (qforget [6] qs_nil))
  (qs_cons (qset 4 sc_made_one_fault.nd (qix (hu1 hr) (qvb 2) qint.b))
  (qs_cons (qif (qt_not (qtru (qcall I.is_structure hr (by rfl) T.m_is_structure T.F_is_structure.kp T.b_is_structure (qam_v (qv 4) qam_nil)).b))
  (qs_one (qret (qtup (qa_cons (qstr s_structure) qa_nil))))
  qs_nil)
  (qforget [7, 8] (qs_cons (qfor [7, 8] (qi_any imForOk (qtup (qa_cons (qtup (qa_cons qint (qa_cons (qv 0) qa_nil))) (qa_cons (qtup (qa_cons qint (qa_cons (qv 1) qa_nil))) qa_nil))).xf) (qgt 2 (qgs_cons (qgv 7 sc_made_one_fault.nd) (qgs_cons (qgv 8 sc_made_one_fault.nd) qgs_nil)))
  (qs_cons (qif (qtcmp (o_ne (hu64 hr)) (qcall I.more_general hr (by rfl) T.m_more_general T.F_more_general.kp T.b_more_general (qam_b (qvb 8) (qam_b (qvb 4) qam_nil))).b (qix (hu1 hr) (qvb 2) (qbin o_add (qvb 7) qint.b).b).b)
  (qs_one (qret (qtup (qa_cons (qstr s_general) (qa_cons (qv 7) qa_nil)))))
  qs_nil) (qforget [7, 8] qs_nil)))
  (qs_cons (qset 5 sc_made_one_fault.nd (qcall I.made_one hr (by rfl) T.m_made_one T.F_made_one.kp T.b_made_one (qam_v (qv 0) (qam_v (qv 1) qam_nil))))
  (qs_cons (qif (qw_or (qtcmp (o_eq (hu64 hr)) (qix (hu1 hr) (qvb 5) qint.b).b (qstr s_clash).b) (qw_or1 (qtcmp o_is (qcall I.more_general hr (by rfl) T.m_more_general T.F_more_general.kp T.b_more_general (qam_b (qvb 4) (qam_b (qix (hu1 hr) (qvb 5) qint.b).b qam_nil))).b qnon.b))).test
  (qs_one (qret (qtup (qa_cons (qstr s_less) qa_nil))))
  qs_nil)
  (qs_one (qret qnon))))))))))
theorem ok_law_structure (T : Tb K mg α) (I : Ok P w K mg base α S n) : FnOk P w K mg base CX0 (n + 1 + 1) α.a_law_structure α.d_law_structure ["form", "kept"] (spD S [true, true] (f_law_structure (n + 1))) :=
  fn_ok [true, true] T.F_law_structure sc_law_structure rfl fun cdv A outer s H E hr =>
  (qs_cons (qset 2 sc_law_structure.nd (qlc [("feature", 4)] sc_law_structure.nd (qi_any (imCompOk _) (qlst (qa_cons qint (qa_cons qint qa_nil))).b.xc) (blkOk_by (N := N_law_structure) (sc := defScope s_T_law_structure) (by decide +kernel)) (fun _ _ _ _ _ => (qgv 4 sc_law_structure.nd)) (fun _ _ _ _ _ => (qts_one (qtcmp (o_inX (hu65 hr)) (qvb 4) (qvb 1)))) (fun _ _ _ _ _ => (qv 4))).e)
  (qs_cons (qset 3 sc_law_structure.nd (qlst (qa_cons (qtup (qa_cons qnon (qa_cons (qcallT c_tuple (by rfl) T.z_tuple (by decide +kernel) (qab_cons (qlc [("k", 5)] sc_law_structure.nd (qi_rg1 (by rfl) T.z_range (qcallB c_len (by rfl) T.z_len (by decide +kernel) (qab_cons (qvb 2) qab_nil)).b) (blkOk_by (N := N_law_structure) (sc := defScope s_T_law_structure) (by decide +kernel)) (fun _ _ _ _ _ => (qgv 5 sc_law_structure.nd)) (fun _ _ _ _ _ => qts_nil) (fun _ _ _ _ _ => (qtup (qa_cons (qix (hu1 hr) (qlst (qa_cons (qstr s_case) (qa_cons (qstr s_number) qa_nil))).b (qix (hu1 hr) (qvb 2) (qvb 5)).b) (qa_cons (qbin o_add (qvb 5) qint.b) qa_nil))))).b qab_nil)) qa_nil))) qa_nil)).e)
  (qs_one (qret (qbin o_add (qvb 3) (qlc [("feature", 4)] sc_law_structure.nd (qi_any (imCompOk _) (qvb 2).xc) (blkOk_by (N := N_law_structure) (sc := defScope s_T_law_structure) (by decide +kernel)) (fun _ _ _ _ _ => (qgv 4 sc_law_structure.nd)) (fun _ _ _ _ _ => qts_nil) (fun _ _ _ _ _ => (qtup (qa_cons (qix (hu1 hr) (qstr s_xyz).b (qix (hu1 hr) (qvb 0) (qvb 4)).b) (qa_cons (qtup qa_nil) qa_nil))))).b)))))
theorem ok_law_take (T : Tb K mg α) : FnOk P w K mg base CX0 1 α.a_law_take α.d_law_take ["state", "most"] (spTake S) := by
  refine T.F_law_take.ok sc_law_take (fun vs H Q E h => ?_) (fun cdv A outer s H vs Q E hr h => ⟨tTake K, pss_cons (ps_set (i := 2) sc_law_take.nd rfl (Or.inl rfl) (pe_ix ix_seq (pv 0) pe_int fun _ _ => rfl))
    (pss_cons (ps_set (i := 3) sc_law_take.nd rfl (Or.inl rfl) (pe_op op_mod (pe_ix ix_seq (pv 0) pe_int fun _ _ => rfl) (pe_callB call_len rfl T.z_len boot_len (pa_cons (pv 2) pa_nil))))
    (pss_cons (ps_set (i := 4) sc_law_take.nd rfl (Or.inl rfl) (pe_ix ix_seq (pv 2) (pv 3) fun _ _ => rfl))
    (pss_cons (ps_if (pt_cmpR op_ge (pv 4) pe_int (nomark _))
      (pss_cons (ps_asg (pe_op op_fdiv (pv 4) (pv 1)) (pg_sub (pv 2) (pv 3) set_list (by intro _; rfl)) (by rfl) (by rfl) (by rfl)) (pss_one (ps_ret (pe_op op_mod (pv 4) (pv 1)))))
      pss_nil)
    (pss_cons (ps_asg (pe_op op_add (pe_ix ix_seq (pv 0) pe_int fun _ _ => rfl) pe_int) (pg_sub (pv 0) pe_int set_list (by intro _; rfl)) (by rfl) (by rfl) (by rfl))
    (pss_cons (ps_set (i := 5) sc_law_take.nd rfl (Or.inl rfl) (pe_op op_mod (pe_callTy call_int1 rfl T.z_int (by decide +kernel) (pa_cons (pe_op op_add (pe_op op_mul (pv 4) pe_int) (pe_op op_mul (pe_ix ix_seq (pv 0) pe_int fun _ _ => rfl) pe_int)) pa_nil)) pe_int))
    (pss_cons (ps_set (i := 5) sc_law_take.nd rfl (Or.inl rfl) (pe_op op_mod (pe_callTy call_int1 rfl T.z_int (by decide +kernel) (pa_cons (pe_op op_add (pe_op op_mul (pv 5) pe_int) (pe_op op_mul (pe_ix ix_seq (pv 0) pe_int fun _ _ => rfl) pe_int)) pa_nil)) pe_int))
    (pss_one (ps_ret (pe_op op_mod (pe_op op_fdiv (pv 5) pe_int) (pv 1)))))))))), take_run h⟩)
  obtain ⟨k, rfl, _⟩ := h; rfl
theorem ok_law_state (T : Tb K mg α) : FnOk P w K mg base CX0 1 α.a_law_state α.d_law_state ["script"] (spState K) := by
  refine T.F_law_state.ok sc_law_state (fun vs H Q E h => ?_) (fun cdv A outer s H vs Q E hr h => ⟨tState K, pss_cons (ps_setLc (i := 1) (own := [("cell", 2)]) (g := gName 2) (tt := tYes) rfl sc_law_state.nd rfl rfl (sw_true rfl rfl rfl (by decide +kernel)) (pi_list (pe_slice sl_list (pv 0) po_none (po_some pe_int))) (blkOk_by (N := N_law_state) (sc := defScope s_T_law_state) (by decide +kernel)) (fun _ _ _ _ _ => pg_name (i := 2) sc_law_state.nd rfl (Or.inl rfl)) (fun _ _ _ _ _ => pts_nil) (fun _ _ _ _ _ => pe_callB call_abs rfl T.z_abs (by decide +kernel) (pa_cons (pv 2) pa_nil)))
    (pss_cons (ps_if (pt_cmpR op_eq (pe_callB call_len rfl T.z_len boot_len (pa_cons (pv 1) pa_nil)) pe_int (nomark _)) (pss_one (ps_set (i := 1) sc_law_state.nd rfl (Or.inl rfl) (pe_lst (pa_cons pe_int pa_nil)))) pss_nil)
    (pss_one (ps_ret (pe_lst (pa_cons pe_int (pa_cons (pv 1) pa_nil)))))), state_run h⟩)
  obtain ⟨a, ns, rfl, _⟩ := h; rfl
theorem ok_law (T : Tb K mg α) (I : ∀ S : SA, S.pr = P ∧ S.wd = w → Ok P w K mg base α S n) (hm : (b_law n (none :: some (.val .stt) :: List.replicate 14 none)).wp fun r => r.1 = .rt (.bl true)) : FnOk P w K mg base CX0 (n + 1 + 1) α.a_law α.d_law ["script"] (spLawD K) := by
  refine T.F_law.ok sc_law (fun vs H Q E h => ?_) (fun cdv A outer s H vs Q E hr h => ⟨tSeq (tAsg (tCall (spState K) [] E0 (tCons (tVar 0) tNil)) (gName 1)) (TA_ P w (b_law n)), pss_cons (ps_set (i := 1) sc_law.nd rfl (Or.inr rfl) (pe_call ((ok_law_state T).mono (by omega)) hr rfl T.m_law_state T.F_law_state.kp T.b_law_state .nil pass0 (pa_cons (pv 0) pa_nil))) (pss_any fun S hS => by
      have I := I S hS
      exact (qs_cons (qsetLcV 2 [("word", 9)] sc_law.nd (qi_rg1 (by rfl) T.z_range qint.b) (blkOk_by (N := N_law) (sc := defScope s_T_law) (by decide +kernel)) (fun _ _ _ _ _ => (qgv 9 sc_law.nd)) (fun _ _ _ _ _ => qts_nil) (fun _ _ _ _ _ => (qlc [("k", 13)] sc_law.nd (qi_rg1 (by rfl) T.z_range (qbin o_add qint.b (qcall I.law_take hr (by rfl) T.m_law_take T.F_law_take.kp T.b_law_take (qam_v (qv 1) (qam_v qint qam_nil))).b).b) (by refine blkOk_by ?_; rfl) (fun _ _ _ _ _ => (qgv 13 sc_law.nd)) (fun _ _ _ _ _ => qts_nil) (fun _ _ _ _ _ => (qtup (qa_cons (qcall I.law_take hr (by rfl) T.m_law_take T.F_law_take.kp T.b_law_take (qam_v (qv 1) (qam_v qint qam_nil))) (qa_cons (qcall I.law_take hr (by rfl) T.m_law_take T.F_law_take.kp T.b_law_take (qam_v (qv 1) (qam_v qint qam_nil))) qa_nil))))).e) (sw_true rfl rfl rfl (by decide +kernel)))
  (qs_cons (qset 3 sc_law.nd (qcall I.law_take hr (by rfl) T.m_law_take T.F_law_take.kp T.b_law_take (qam_v (qv 1) (qam_v qint qam_nil))))
  (qs_cons (qset 4 sc_law.nd (qlst (qa_cons (qtup (qa_cons qint (qa_cons qint (qa_cons (qv 3) qa_nil)))) qa_nil)).e)
  (qs_cons (qset 5 sc_law.nd (qcall I.agreed hr (by rfl) T.m_agreed T.F_agreed.kp T.b_agreed (qam_b (qvb 2) (qam_v (qv 4) qam_nil))))
  (qs_cons (qif (qtcmp o_isNot (qcall I.agreed_fault hr (by rfl) T.m_agreed_fault T.F_agreed_fault.kp T.b_agreed_fault (qam_b (qvb 2) (qam_v (qv 4) (qam_b (qvb 5) qam_nil)))).b qnon.b)
  (qs_one (qret qbl))
  qs_nil)
  (qs_cons (qsetO 6 sc_law.nd (qlst qa_nil))
  (qforget [7, 8, 10, 11, 12, 14, 15] (qs_cons (qfor [7] (qi_rg1 (by rfl) T.z_range (qcallB c_len (by rfl) T.z_len (by decide +kernel) (qab_cons (qix (hu1 hr) (qvb 2) qint.b).b qab_nil)).b) (qgv 7 sc_law.nd)
  (qforget [8, 10, 11, 12, 14, 15] (qs_cons (qfor [8] (qi_rg1 (by rfl) T.z_range (qcallB c_len (by rfl) T.z_len (by decide +kernel) (qab_cons (qix (hu1 hr) (qvb 2) qint.b).b qab_nil)).b) (qgv 8 sc_law.nd)
  (qs_cons (qpar 14 15 sc_law.nd (qa_cons (qcall I.law_structure hr (by rfl) T.m_law_structure T.F_law_structure.kp T.b_law_structure (qam_b (qix (hu1 hr) (qix (hu1 hr) (qvb 2) qint.b).b (qvb 7)).b (qam_b (qlst (qa_cons (qv 3) qa_nil)).b qam_nil))) (qa_cons (qcall I.law_structure hr (by rfl) T.m_law_structure T.F_law_structure.kp T.b_law_structure (qam_b (qix (hu1 hr) (qix (hu1 hr) (qvb 2) qint.b).b (qvb 8)).b (qam_b (qlst (qa_cons (qv 3) qa_nil)).b qam_nil))) qa_nil)))
  (qs_cons (qset 10 sc_law.nd (qcall I.made_one hr (by rfl) T.m_made_one T.F_made_one.kp T.b_made_one (qam_v (qv 14) (qam_v (qv 15) qam_nil))))
  (qs_cons (qif (qtcmp o_isNot (qcall I.made_one_fault hr (by rfl) T.m_made_one_fault T.F_made_one_fault.kp T.b_made_one_fault (qam_v (qv 14) (qam_v (qv 15) (qam_b (qvb 10) qam_nil)))).b qnon.b)
  (qs_one (qret qbl))
  qs_nil)
  (qs_cons (qif (qtcmp (o_eq (hu64 hr)) (qix (hu1 hr) (qvb 10) qint.b).b (qstr s_one).b)
  (qs_cons (qappend 6 (qlst (qa_cons (qv 7) (qa_cons (qv 8) qa_nil))).e)
  (qs_cons (qif (qw_or (qtcmp (o_ne (hu64 hr)) (qix (hu1 hr) (qvb 10) qint.b).b (qvb 14)) (qw_or1 (qtcmp (o_ne (hu64 hr)) (qcall I.more_general hr (by rfl) T.m_more_general T.F_more_general.kp T.b_more_general (qam_b (qvb 14) (qam_b (qvb 15) qam_nil))).b (qlst (qa_cons qint (qa_cons qint qa_nil))).b))).test
  (qs_one (qret qbl))
  qs_nil) (qforget [] qs_nil)))
  (qforget [] qs_nil))
  (qs_cons (qset 11 sc_law.nd (qcall I.made_one hr (by rfl) T.m_made_one T.F_made_one.kp T.b_made_one (qam_v (qcall I.law_structure hr (by rfl) T.m_law_structure T.F_law_structure.kp T.b_law_structure (qam_b (qix (hu1 hr) (qix (hu1 hr) (qvb 2) qint.b).b (qvb 7)).b (qam_b (qlst (qa_cons qint (qa_cons qint qa_nil))).b qam_nil))) (qam_v (qcall I.law_structure hr (by rfl) T.m_law_structure T.F_law_structure.kp T.b_law_structure (qam_b (qix (hu1 hr) (qix (hu1 hr) (qvb 2) qint.b).b (qvb 8)).b (qam_b (qlst (qa_cons qint (qa_cons qint qa_nil))).b qam_nil))) qam_nil))))
  (qs_cons (qif (qtcmp (o_ne (hu64 hr)) (qcmp (o_eq (hu64 hr)) (qix (hu1 hr) (qvb 11) qint.b).b (qstr s_one).b).b (qcmp (o_eq (hu64 hr)) (qix (hu1 hr) (qix (hu1 hr) (qvb 2) qint.b).b (qvb 7)).b (qix (hu1 hr) (qix (hu1 hr) (qvb 2) qint.b).b (qvb 8)).b).b)
  (qs_one (qret qbl))
  qs_nil)
  (qs_cons (qset 12 sc_law.nd (qcall I.made_one hr (by rfl) T.m_made_one T.F_made_one.kp T.b_made_one (qam_v (qcall I.law_structure hr (by rfl) T.m_law_structure T.F_law_structure.kp T.b_law_structure (qam_b (qix (hu1 hr) (qix (hu1 hr) (qvb 2) qint.b).b (qvb 7)).b (qam_b (qlst (qa_cons qint qa_nil)).b qam_nil))) (qam_v (qcall I.law_structure hr (by rfl) T.m_law_structure T.F_law_structure.kp T.b_law_structure (qam_b (qix (hu1 hr) (qix (hu1 hr) (qvb 2) qint.b).b (qvb 8)).b (qam_b (qlst (qa_cons qint qa_nil)).b qam_nil))) qam_nil))))
  (qs_cons (qif (qw_or (qtcmp (o_ne (hu64 hr)) (qix (hu1 hr) (qvb 12) qint.b).b (qstr s_one).b) (qw_or1 (qtcmp (o_ne (hu64 hr)) (qix (hu1 hr) (qvb 12) qint.b).b (qcall I.law_structure hr (by rfl) T.m_law_structure T.F_law_structure.kp T.b_law_structure (qam_b (qtup (qa_cons (qix (hu1 hr) (qix (hu1 hr) (qix (hu1 hr) (qvb 2) qint.b).b (qvb 7)).b qint.b) (qa_cons (qix (hu1 hr) (qix (hu1 hr) (qix (hu1 hr) (qvb 2) qint.b).b (qvb 8)).b qint.b) qa_nil))).b (qam_b (qlst (qa_cons qint (qa_cons qint qa_nil))).b qam_nil))).b))).test
  (qs_one (qret qbl))
  qs_nil) (qforget [8, 10, 11, 12, 14, 15] qs_nil)))))))))) (qforget [7, 8, 10, 11, 12, 14, 15] qs_nil))))
  (qs_cons (qif (qw_or (qtcmp (o_ne (hu64 hr)) (qcall I.count_agreed hr (by rfl) T.m_count_agreed T.F_count_agreed.kp T.b_count_agreed (qam_v (qv 2) (qam_b (qvb 4) qam_nil))).b (qcallB c_len (by rfl) T.z_len (by decide +kernel) (qab_cons (qvb 6) qab_nil)).b) (qw_or1 (qtcmp (o_ne (hu64 hr)) (qcmp (o_eq (hu64 hr)) (qix (hu1 hr) (qvb 5) qint.b).b (qstr s_forms).b).b (qcmp o_gt (qcallB c_len (by rfl) T.z_len (by decide +kernel) (qab_cons (qvb 6) qab_nil)).b qint.b).b))).test
  (qs_one (qret qbl))
  qs_nil)
  (qs_one (qret (qorV (qcmp (o_eq (hu64 hr)) (qcallB c_len (by rfl) T.z_len (by decide +kernel) (qab_cons (qvb 6) qab_nil)).b qint.b) (qe_one (qcmp (o_eq (hu64 hr)) (qix (hu1 hr) (qvb 5) qint.b).b (qix (hu1 hr) (qvb 6) qint.b).b))))))))))))))), law_run (k := 14) rfl hm h⟩)
  obtain ⟨a, ns, rfl, _⟩ := h; rfl
theorem ok_all (T : Tb K mg α) (S : SA) (hS : S.pr = P ∧ S.wd = w) : ∀ n, Ok P w K mg base α S n
  | 0 => ⟨hS, fn_zero, fn_zero, fn_zero, fn_zero, fn_zero, fn_zero, fn_zero, fn_zero, fn_zero, fn_zero, fn_zero, fn_zero, fn_zero, fn_zero, fn_zero, fn_zero, fn_zero, fn_zero, take_fn ((ok_law_take T).mono (by omega)), fn_zero⟩
  | n + 1 => ⟨hS, ok_partners T (ok_all T S hS n), ok_left_out T (ok_all T S hS n), ok_agreed T (ok_all T S hS n), ok_fits_on T (ok_all T S hS n), ok_agreed_fault T (ok_all T S hS n), ok_count_agreed T (ok_all T S hS n), ok_agrees T (ok_all T S hS n), ok_goes T (ok_all T S hS n), ok_all_nodes T (ok_all T S hS n), ok_clash_of T (ok_all T S hS n), ok_steps_from T (ok_all T S hS n), ok_needed_steps T (ok_all T S hS n), ok_made_one T (ok_all T S hS n), ok_merged_features T (ok_all T S hS n), ok_pairs_by T (ok_all T S hS n), ok_more_general T (ok_all T S hS n), ok_made_one_fault T (ok_all T S hS n), ok_is_structure T (ok_all T S hS n), take_fn ((ok_law_take T).mono (by omega)), ok_law_structure T (ok_all T S hS n)⟩
end
/-! ### the head -/
def fn : List He.DefD := [dd "partners" s_T_partners, dd "left_out" s_T_left_out, dd "agreed" s_T_agreed, dd "fits_on" s_T_fits_on, dd "agreed_fault" s_T_agreed_fault, dd "count_agreed" s_T_count_agreed, dd "agrees" s_T_agrees, dd "goes" s_T_goes, dd "all_nodes" s_T_all_nodes, dd "clash_of" s_T_clash_of, dd "steps_from" s_T_steps_from, dd "needed_steps" s_T_needed_steps, dd "made_one" s_T_made_one, dd "merged_features" s_T_merged_features, dd "pairs_by" s_T_pairs_by, dd "more_general" s_T_more_general, dd "made_one_fault" s_T_made_one_fault, dd "is_structure" s_T_is_structure, dd "_law_state" s_T_law_state, dd "_law_take" s_T_law_take, dd "_law_structure" s_T_law_structure, dd "law" s_T_law]
def fa : List He.Fa := [.glo "partners", .glo "left_out", .glo "agreed", .glo "fits_on", .glo "agreed_fault", .glo "count_agreed", .glo "agrees", .glo "goes", .glo "all_nodes", .glo "clash_of", .glo "steps_from", .glo "needed_steps", .glo "made_one", .glo "merged_features", .glo "pairs_by", .glo "more_general", .glo "made_one_fault", .glo "is_structure", .glo "_law_state", .glo "_law_take", .glo "_law_structure", .glo "law", .free "abs", .free "all", .free "any", .free "enumerate", .free "int", .free "isinstance", .free "len", .free "list", .free "min", .free "range", .free "set", .free "sorted", .free "tuple"]
abbrev R : PySem.W.OpenRow := PySem.W.OpenLaw.row PySem.Challenge.rw_wordkinds_k74_forms_as_structures
abbrev hk : PySem.W.Hook := He.hookD 4 fa fn
def ob (s : PySem.W.SharedT) : He.AlD := He.obsDG 4 fa fn (HandSHeadRun.getT s)
theorem ob_eq (s : PySem.W.SharedT) : ob s = hk.obs s.abs := He.obsDG_eq (HandSHeadRun.getT_eq s)
abbrev loose : List PySem.Str := ["partners", "left_out", "agreed", "fits_on", "agreed_fault", "count_agreed", "agrees", "goes", "all_nodes", "clash_of", "steps_from", "needed_steps", "made_one", "merged_features", "pairs_by", "more_general", "made_one_fault", "is_structure", "_law_state", "_law_take", "_law_structure"]
theorem run (w : World) : HandSHeadRun.RunEq R (PySem.W.view R.prog [24]) hk ob 4000 loose w := by
  intro os
  kernel_rfl
theorem tb_of {K : PySem.W.Frag} {h : Heap} {mg : Str → Option Value} (X : K.In h) (G : h.Ns mainGlobals mg) (c : He.SaysD fa fn K) : ∃ α, Tb K mg α := by
  obtain ⟨fd0, F0⟩ := c.def_ 0 (d := dd "partners" s_T_partners) rfl
  have U0 : L2.Fun K "partners" "partners" s_T_partners _ fd0 := fun_of F0
  obtain ⟨fd1, F1⟩ := c.def_ 1 (d := dd "left_out" s_T_left_out) rfl
  have U1 : L2.Fun K "left_out" "left_out" s_T_left_out _ fd1 := fun_of F1
  obtain ⟨fd2, F2⟩ := c.def_ 2 (d := dd "agreed" s_T_agreed) rfl
  have U2 : L2.Fun K "agreed" "agreed" s_T_agreed _ fd2 := fun_of F2
  obtain ⟨fd3, F3⟩ := c.def_ 3 (d := dd "fits_on" s_T_fits_on) rfl
  have U3 : L2.Fun K "fits_on" "fits_on" s_T_fits_on _ fd3 := fun_of F3
  obtain ⟨fd4, F4⟩ := c.def_ 4 (d := dd "agreed_fault" s_T_agreed_fault) rfl
  have U4 : L2.Fun K "agreed_fault" "agreed_fault" s_T_agreed_fault _ fd4 := fun_of F4
  obtain ⟨fd5, F5⟩ := c.def_ 5 (d := dd "count_agreed" s_T_count_agreed) rfl
  have U5 : L2.Fun K "count_agreed" "count_agreed" s_T_count_agreed _ fd5 := fun_of F5
  obtain ⟨fd6, F6⟩ := c.def_ 6 (d := dd "agrees" s_T_agrees) rfl
  have U6 : L2.Fun K "agrees" "agrees" s_T_agrees _ fd6 := fun_of F6
  obtain ⟨fd7, F7⟩ := c.def_ 7 (d := dd "goes" s_T_goes) rfl
  have U7 : L2.Fun K "goes" "goes" s_T_goes _ fd7 := fun_of F7
  obtain ⟨fd8, F8⟩ := c.def_ 8 (d := dd "all_nodes" s_T_all_nodes) rfl
  have U8 : L2.Fun K "all_nodes" "all_nodes" s_T_all_nodes _ fd8 := fun_of F8
  obtain ⟨fd9, F9⟩ := c.def_ 9 (d := dd "clash_of" s_T_clash_of) rfl
  have U9 : L2.Fun K "clash_of" "clash_of" s_T_clash_of _ fd9 := fun_of F9
  obtain ⟨fd10, F10⟩ := c.def_ 10 (d := dd "steps_from" s_T_steps_from) rfl
  have U10 : L2.Fun K "steps_from" "steps_from" s_T_steps_from _ fd10 := fun_of F10
  obtain ⟨fd11, F11⟩ := c.def_ 11 (d := dd "needed_steps" s_T_needed_steps) rfl
  have U11 : L2.Fun K "needed_steps" "needed_steps" s_T_needed_steps _ fd11 := fun_of F11
  obtain ⟨fd12, F12⟩ := c.def_ 12 (d := dd "made_one" s_T_made_one) rfl
  have U12 : L2.Fun K "made_one" "made_one" s_T_made_one _ fd12 := fun_of F12
  obtain ⟨fd13, F13⟩ := c.def_ 13 (d := dd "merged_features" s_T_merged_features) rfl
  have U13 : L2.Fun K "merged_features" "merged_features" s_T_merged_features _ fd13 := fun_of F13
  obtain ⟨fd14, F14⟩ := c.def_ 14 (d := dd "pairs_by" s_T_pairs_by) rfl
  have U14 : L2.Fun K "pairs_by" "pairs_by" s_T_pairs_by _ fd14 := fun_of F14
  obtain ⟨fd15, F15⟩ := c.def_ 15 (d := dd "more_general" s_T_more_general) rfl
  have U15 : L2.Fun K "more_general" "more_general" s_T_more_general _ fd15 := fun_of F15
  obtain ⟨fd16, F16⟩ := c.def_ 16 (d := dd "made_one_fault" s_T_made_one_fault) rfl
  have U16 : L2.Fun K "made_one_fault" "made_one_fault" s_T_made_one_fault _ fd16 := fun_of F16
  obtain ⟨fd17, F17⟩ := c.def_ 17 (d := dd "is_structure" s_T_is_structure) rfl
  have U17 : L2.Fun K "is_structure" "is_structure" s_T_is_structure _ fd17 := fun_of F17
  obtain ⟨fd18, F18⟩ := c.def_ 18 (d := dd "_law_state" s_T_law_state) rfl
  have U18 : L2.Fun K "_law_state" "_law_state" s_T_law_state _ fd18 := fun_of F18
  obtain ⟨fd19, F19⟩ := c.def_ 19 (d := dd "_law_take" s_T_law_take) rfl
  have U19 : L2.Fun K "_law_take" "_law_take" s_T_law_take _ fd19 := fun_of F19
  obtain ⟨fd20, F20⟩ := c.def_ 20 (d := dd "_law_structure" s_T_law_structure) rfl
  have U20 : L2.Fun K "_law_structure" "_law_structure" s_T_law_structure _ fd20 := fun_of F20
  obtain ⟨fd21, F21⟩ := c.def_ 21 (d := dd "law" s_T_law) rfl
  have U21 : L2.Fun K "law" "law" s_T_law _ fd21 := fun_of F21
  exact ⟨⟨_, fd0, _, fd1, _, fd2, _, fd3, _, fd4, _, fd5, _, fd6, _, fd7, _, fd8, _, fd9, _, fd10, _, fd11, _, fd12, _, fd13, _, fd14, _, fd15, _, fd16, _, fd17, _, fd18, _, fd19, _, fd20, _, fd21⟩, {
    F_partners := U0,
    b_partners := U0.binds (ps := ["words", "left", "word", "form", "tie"]) fun _ _ _ _ _ _ us hl => match us, hl with | [_, _, _, _, _], _ => rfl,
    m_partners := He.glo_ok X G (c.fact 0 (f := .glo "partners") rfl),
    F_left_out := U1,
    b_left_out := U1.binds (ps := ["words", "ties"]) fun _ _ _ _ _ _ us hl => match us, hl with | [_, _], _ => rfl,
    m_left_out := He.glo_ok X G (c.fact 1 (f := .glo "left_out") rfl),
    F_agreed := U2,
    b_agreed := U2.binds (ps := ["words", "ties"]) fun _ _ _ _ _ _ us hl => match us, hl with | [_, _], _ => rfl,
    m_agreed := He.glo_ok X G (c.fact 2 (f := .glo "agreed") rfl),
    F_fits_on := U3,
    b_fits_on := U3.binds (ps := ["words", "ties", "chosen"]) fun _ _ _ _ _ _ us hl => match us, hl with | [_, _, _], _ => rfl,
    m_fits_on := He.glo_ok X G (c.fact 3 (f := .glo "fits_on") rfl),
    F_agreed_fault := U4,
    b_agreed_fault := U4.binds (ps := ["words", "ties", "told"]) fun _ _ _ _ _ _ us hl => match us, hl with | [_, _, _], _ => rfl,
    m_agreed_fault := He.glo_ok X G (c.fact 4 (f := .glo "agreed_fault") rfl),
    F_count_agreed := U5,
    b_count_agreed := U5.binds (ps := ["words", "ties"]) fun _ _ _ _ _ _ us hl => match us, hl with | [_, _], _ => rfl,
    m_count_agreed := He.glo_ok X G (c.fact 5 (f := .glo "count_agreed") rfl),
    F_agrees := U6,
    b_agrees := U6.binds (ps := ["words", "row", "tie"]) fun _ _ _ _ _ _ us hl => match us, hl with | [_, _, _], _ => rfl,
    m_agrees := He.glo_ok X G (c.fact 6 (f := .glo "agrees") rfl),
    F_goes := U7,
    b_goes := U7.binds (ps := ["one", "node", "feature"]) fun _ _ _ _ _ _ us hl => match us, hl with | [_, _, _], _ => rfl,
    m_goes := He.glo_ok X G (c.fact 7 (f := .glo "goes") rfl),
    F_all_nodes := U8,
    b_all_nodes := U8.binds (ps := ["both"]) fun _ _ _ _ _ _ us hl => match us, hl with | [_], _ => rfl,
    m_all_nodes := He.glo_ok X G (c.fact 8 (f := .glo "all_nodes") rfl),
    F_clash_of := U9,
    b_clash_of := U9.binds (ps := ["nodes", "one", "other"]) fun _ _ _ _ _ _ us hl => match us, hl with | [_, _, _], _ => rfl,
    m_clash_of := He.glo_ok X G (c.fact 9 (f := .glo "clash_of") rfl),
    F_steps_from := U10,
    b_steps_from := U10.binds (ps := ["nodes", "many"]) fun _ _ _ _ _ _ us hl => match us, hl with | [_, _], _ => rfl,
    m_steps_from := He.glo_ok X G (c.fact 10 (f := .glo "steps_from") rfl),
    F_needed_steps := U11,
    b_needed_steps := U11.binds (ps := ["steps", "last"]) fun _ _ _ _ _ _ us hl => match us, hl with | [_, _], _ => rfl,
    m_needed_steps := He.glo_ok X G (c.fact 11 (f := .glo "needed_steps") rfl),
    F_made_one := U12,
    b_made_one := U12.binds (ps := ["one", "other"]) fun _ _ _ _ _ _ us hl => match us, hl with | [_, _], _ => rfl,
    m_made_one := He.glo_ok X G (c.fact 12 (f := .glo "made_one") rfl),
    F_merged_features := U13,
    b_merged_features := U13.binds (ps := ["nodes", "groups", "group"]) fun _ _ _ _ _ _ us hl => match us, hl with | [_, _, _], _ => rfl,
    m_merged_features := He.glo_ok X G (c.fact 13 (f := .glo "merged_features") rfl),
    F_pairs_by := U14,
    b_pairs_by := U14.binds (ps := ["nodes", "many", "steps"]) fun _ _ _ _ _ _ us hl => match us, hl with | [_, _, _], _ => rfl,
    m_pairs_by := He.glo_ok X G (c.fact 14 (f := .glo "pairs_by") rfl),
    F_more_general := U15,
    b_more_general := U15.binds (ps := ["one", "other"]) fun _ _ _ _ _ _ us hl => match us, hl with | [_, _], _ => rfl,
    m_more_general := He.glo_ok X G (c.fact 15 (f := .glo "more_general") rfl),
    F_made_one_fault := U16,
    b_made_one_fault := U16.binds (ps := ["one", "other", "told"]) fun _ _ _ _ _ _ us hl => match us, hl with | [_, _, _], _ => rfl,
    m_made_one_fault := He.glo_ok X G (c.fact 16 (f := .glo "made_one_fault") rfl),
    F_is_structure := U17,
    b_is_structure := U17.binds (ps := ["rows"]) fun _ _ _ _ _ _ us hl => match us, hl with | [_], _ => rfl,
    m_is_structure := He.glo_ok X G (c.fact 17 (f := .glo "is_structure") rfl),
    F_law_state := U18,
    b_law_state := U18.binds (ps := ["script"]) fun _ _ _ _ _ _ us hl => match us, hl with | [_], _ => rfl,
    m_law_state := He.glo_ok X G (c.fact 18 (f := .glo "_law_state") rfl),
    F_law_take := U19,
    b_law_take := U19.binds (ps := ["state", "most"]) fun _ _ _ _ _ _ us hl => match us, hl with | [_, _], _ => rfl,
    m_law_take := He.glo_ok X G (c.fact 19 (f := .glo "_law_take") rfl),
    F_law_structure := U20,
    b_law_structure := U20.binds (ps := ["form", "kept"]) fun _ _ _ _ _ _ us hl => match us, hl with | [_, _], _ => rfl,
    m_law_structure := He.glo_ok X G (c.fact 20 (f := .glo "_law_structure") rfl),
    F_law := U21,
    b_law := U21.binds (ps := ["script"]) fun _ _ _ _ _ _ us hl => match us, hl with | [_], _ => rfl,
    m_law := He.glo_ok X G (c.fact 21 (f := .glo "law") rfl),
    z_abs := He.free_ok X G (c.fact 22 (f := .free "abs") rfl),
    z_all := He.free_ok X G (c.fact 23 (f := .free "all") rfl),
    z_any := He.free_ok X G (c.fact 24 (f := .free "any") rfl),
    z_enumerate := He.free_ok X G (c.fact 25 (f := .free "enumerate") rfl),
    z_int := He.free_ok X G (c.fact 26 (f := .free "int") rfl),
    z_isinstance := He.free_ok X G (c.fact 27 (f := .free "isinstance") rfl),
    z_len := He.free_ok X G (c.fact 28 (f := .free "len") rfl),
    z_list := He.free_ok X G (c.fact 29 (f := .free "list") rfl),
    z_min := He.free_ok X G (c.fact 30 (f := .free "min") rfl),
    z_range := He.free_ok X G (c.fact 31 (f := .free "range") rfl),
    z_set := He.free_ok X G (c.fact 32 (f := .free "set") rfl),
    z_sorted := He.free_ok X G (c.fact 33 (f := .free "sorted") rfl),
    z_tuple := He.free_ok X G (c.fact 34 (f := .free "tuple") rfl) }⟩
theorem facts {P : Program} {w : World} {K : PySem.W.Frag} {h : Heap} {mg : Str → Option Value} {f : Addr} (X : K.In h) (G : h.Ns mainGlobals mg) (hfa : mg ("law" : Str) = some (.ref f)) (c : He.SaysD fa fn K) (hm : (b_law 40 (none :: some (.val .stt) :: List.replicate 14 none)).wp fun r => r.1 = .rt (.bl true)) :
    ∃ fd : FuncData, (∀ (s : Shared) (v : Value), BindsTo s fd ⟨[v], []⟩ [("script", v)]) ∧ ∀ base : Heap, K.In base → base.Ns mainGlobals mg → FnOk P w K mg base CX0 42 f fd ["script"] (spLawD K) := by
  obtain ⟨fd, F⟩ := c.def_ 21 (d := dd "law" s_T_law) rfl
  have e := hfa.symm.trans (He.glo_ok X G (c.fact 21 (f := .glo "law") rfl))
  cases e
  obtain ⟨α, T⟩ := tb_of X G c
  have b := FunD.bindsA (ps := ["script"]) F fun _ _ _ _ _ _ us hl => match us, hl with | [_], _ => rfl
  have e2 := (He.glo_ok X G (c.fact 21 (f := .glo "law") rfl)).symm.trans T.m_law
  refine ⟨fd, fun s v => b s [v] rfl, fun base _ _ => ?_⟩
  have q := ok_law T (P := P) (w := w) (base := base) (fun S hS => ok_all T S hS 40) hm
  have e3 := Value.ref.inj (Option.some.inj e2)
  have e4 : α.d_law = fd := by
    obtain ⟨_, _, _, _, _, _, _, _, _, _, l1, _⟩ := T.F_law.ex
    obtain ⟨_, _, _, _, _, _, _, _, _, _, _, l2, _⟩ := F.ex
    rw [← e3] at l1
    have l3 := l1.symm.trans l2
    simp only [Option.some.injEq, Obj.mk.injEq, Data.func.injEq] at l3
    exact l3.2.2.1
  rw [← e3, e4] at q
  exact q
end K74

set_option Elab.async false
set_option linter.all false
set_option maxRecDepth 100000
set_option maxHeartbeats 0
namespace K74
open PySem PySem.Spec L2 DL
def t_partners (words_ : (List (List (List Int)))) (left_ : (List (List Int))) (word_ : Int) (form_ : Int) (tie_ : (Int × Int × Int)) : M (List Int) := (M.ret tie_) >>= fun u1 => (M.ret (if (decide (word_ = u1.1)) then u1.2.1 else u1.1)) >>= fun far_v2 => ((ixM left_ far_v2) >>= fun v14 => (lcM (fun x3 => ((((ixM words_ far_v2) >>= fun v4 => (ixM v4 x3)) >>= fun v6 => (ixM v6 u1.2.2)) >>= fun v12 => (((ixM words_ word_) >>= fun v8 => (ixM v8 form_)) >>= fun v10 => (ixM v10 u1.2.2)) >>= fun v13 => .ret (decide (v12 = v13)))) (fun x3 => (M.ret x3))) v14)
theorem rf_partners (k : Nat) (words_ : (List (List (List Int)))) (left_ : (List (List Int))) (word_ : Int) (form_ : Int) (tie_ : (Int × Int × Int)) : Ev (eL eI) (f_partners (k + 1) [(eL (eL (eV eI))) words_, (eL (eL eI)) left_, eI word_, eI form_, (eT3 eI eI eI) tie_]) (t_partners words_ left_ word_ form_ tie_) := by
  show Ev (eL eI) (fnM 10 [true, true, true, true, false] (b_partners (k + 0)) [(eL (eL (eV eI))) words_, (eL (eL eI)) left_, eI word_, eI form_, (eT3 eI eI eI) tie_]) _
  exact rf_fn
    (s_env (env' := [some (.bor ((eL (eL (eV eI))) words_)), some (.bor ((eL (eL eI)) left_)), some (.bor (eI word_)), some (.bor (eI form_)), some (.val ((eT3 eI eI eI) tie_)), none, none, none, none, none]) rfl (s_asgE (e := (eT3 eI eI eI)) (ev_ret (e := (eT3 eI eI eI)) (rfl : _ = M.ret ((eT3 eI eI eI) tie_))) (fun _ => rfl) (fun u1 => (s_env (env' := [some (.bor ((eL (eL (eV eI))) words_)), some (.bor ((eL (eL eI)) left_)), some (.bor (eI word_)), some (.bor (eI form_)), some (.val ((eT3 eI eI eI) tie_)), none, some (.val (eI u1.1)), some (.val (eI u1.2.1)), some (.val (eI u1.2.2)), none]) rfl (s_setE (e := eI) (ev_ret (e := eI) (p_ifE (e := eI) (va := u1.2.1) (vb := u1.1) (p_binT (rfl : _ = M.ret (eI word_)) (rfl : _ = M.ret (eI u1.1)) (o_eqE cI (by decide) _ _)) (rfl : _ = M.ret (eI u1.2.1)) (rfl : _ = M.ret (eI u1.1)))) (fun far_v2 => (s_env (env' := [some (.bor ((eL (eL (eV eI))) words_)), some (.bor ((eL (eL eI)) left_)), some (.bor (eI word_)), some (.bor (eI form_)), some (.val ((eT3 eI eI eI) tie_)), some (.val (eI far_v2)), some (.val (eI u1.1)), some (.val (eI u1.2.1)), some (.val (eI u1.2.2)), none]) rfl (s_retF (fun _ _ => Or.inl rfl) (r_lcE rfl (i_LE (b_PP (rfl : _ = M.ret ((eL (eL eI)) left_)) (rfl : _ = M.ret (eI far_v2)) (r_ix _ _))) (fun _ => rfl) (fun x3 => (t_E (b_EE (b_EP (b_EP (b_PP (rfl : _ = M.ret ((eL (eL (eV eI))) words_)) (rfl : _ = M.ret (eI far_v2)) (r_ix _ _)) (rfl : _ = M.ret (eI x3)) (fun v4 => (r_ix _ _))) (rfl : _ = M.ret (eI u1.2.2)) (fun v6 => (r_ixV _ _))) (b_EP (b_EP (b_PP (rfl : _ = M.ret ((eL (eL (eV eI))) words_)) (rfl : _ = M.ret (eI word_)) (r_ix _ _)) (rfl : _ = M.ret (eI form_)) (fun v8 => (r_ix _ _))) (rfl : _ = M.ret (eI u1.2.2)) (fun v10 => (r_ixV _ _))) (fun v12 v13 => (ev_ret (e := eB) (o_eqE cI (by decide) _ _)))))) (fun x3 => (ev_ret (e := eI) (rfl : _ = M.ret (eI x3)))))))))))))
end K74

set_option Elab.async false
set_option linter.all false
set_option maxRecDepth 100000
set_option maxHeartbeats 0
namespace K74
open PySem PySem.Spec L2 DL
def t_left_out (words_ : (List (List (List Int)))) (ties_ : (List (Int × Int × Int))) : M ((List (List Int)) × (List (Int × Int × Int))) := ((lcM (fun x1 => (M.ret true)) (fun x1 => (rgM 0 ((x1.length : Nat) : Int)))) words_) >>= fun left_v2 => (M.ret ([] : (List (Int × Int × Int)))) >>= fun rows_v3 => ((whileM (fun s4 => (M.ret s4.2.2)) (fun s4 => ((loopM (fun x5 s6 => ((loopM (fun x7 s8 => ((((ixM s8.1 x7) >>= fun v9 => .ret v9) >>= fun v19 => loopM (fun x10 s11 => ((((((t_partners words_ s11.1 x7 x10 x5.2)) >>= fun v12 => .ret (!v12.isEmpty)) >>= fun kb => .ret (!kb)) >>= fun kb => if kb then ((ixM s11.1 x7) >>= fun v14 => (lcM (fun x13 => (M.ret (!decide (x13 = x10)))) (fun x13 => (M.ret x13))) v14) >>= fun v17 => setM s11.1 x7 v17 >>= fun left_v15 => appM s11.2.1 (x7, x10, x5.1) >>= fun rows_v16 => .ret (left_v15, rows_v16, true) else .ret (s11.1, s11.2.1, s11.2.2)) : M ((List (List Int)) × (List (Int × Int × Int)) × Bool)) >>= fun s18 => .ret (s18.1, s18.2.1, s18.2.2)) v19 (s8.1, s8.2.1, s8.2.2)) : M ((List (List Int)) × (List (Int × Int × Int)) × Bool)) >>= fun s20 => .ret (s20.1, s20.2.1, s20.2.2)) (cutD [x5.2.1, x5.2.2.1, x5.2.2.2] none (some (2 : Int))) (s6.1, s6.2.1, s6.2.2)) : M ((List (List Int)) × (List (Int × Int × Int)) × Bool)) >>= fun s22 => .ret (s22.1, s22.2.1, s22.2.2)) (enumT 0 ties_) (s4.1, s4.2.1, false)) : M ((List (List Int)) × (List (Int × Int × Int)) × Bool)) >>= fun s24 => .ret (s24.1, s24.2.1, s24.2.2)) 100 (left_v2, rows_v3, true)) : M ((List (List Int)) × (List (Int × Int × Int)) × Bool)) >>= fun s25 => .ret (s25.1, s25.2.1)
theorem rf_left_out (k : Nat) (words_ : (List (List (List Int)))) (ties_ : (List (Int × Int × Int))) : Ev (eT2 (eL (eL eI)) (eL (eT3 eI eI eI))) (f_left_out (k + 2) [(eL (eL (eV eI))) words_, (eL (eT3 eI eI eI)) ties_]) (t_left_out words_ ties_) := by
  show Ev (eT2 (eL (eL eI)) (eL (eT3 eI eI eI))) (fnM 11 [true, false] (b_left_out (k + 1)) [(eL (eL (eV eI))) words_, (eL (eT3 eI eI eI)) ties_]) _
  exact rf_fn
    (s_env (env' := [some (.bor ((eL (eL (eV eI))) words_)), some (.val ((eL (eT3 eI eI eI)) ties_)), none, none, none, none, none, none, none, none, none]) rfl (s_setOE (e := (eL (eL eI))) (r_lc rfl (i_L (rfl : _ = M.ret ((eL (eL (eV eI))) words_))) (fun _ => rfl) (fun x1 => (et_ret rfl)) (fun x1 => (r_lrg1 (p_call (p_cons (rfl : _ = M.ret ((eL (eV eI)) x1)) p_nil) (o_lenL _))))) (fun left_v2 => (s_env (env' := [some (.bor ((eL (eL (eV eI))) words_)), some (.val ((eL (eT3 eI eI eI)) ties_)), some (.own ((eL (eL eI)) left_v2)), none, none, none, none, none, none, none, none]) rfl (s_setOE (e := (eL (eT3 eI eI eI))) (ev_ret (e := (eL (eT3 eI eI eI))) (p_lstE (e := (eT3 eI eI eI)) (xs := ([] : List (Int × Int × Int))) p_nil (p_len (n := 0) (by decide)))) (fun rows_v3 => (s_env (env' := [some (.bor ((eL (eL (eV eI))) words_)), some (.val ((eL (eT3 eI eI eI)) ties_)), some (.own ((eL (eL eI)) left_v2)), some (.own ((eL (eT3 eI eI eI)) rows_v3)), none, none, none, none, none, none, none]) rfl (s_setP (rfl : _ = M.ret (eB true)) (s_forget (s_env (env' := [some (.bor ((eL (eL (eV eI))) words_)), some (.val ((eL (eT3 eI eI eI)) ties_)), some (.own ((eL (eL eI)) left_v2)), some (.own ((eL (eT3 eI eI eI)) rows_v3)), some (.val (eB true)), none, none, none, none, none, none]) rfl (s_next (E := (fun (s : ((List (List Int)) × (List (Int × Int × Int)) × Bool)) => [some (.bor ((eL (eL (eV eI))) words_)), some (.val ((eL (eT3 eI eI eI)) ties_)), some (.own ((eL (eL eI)) s.1)), some (.own ((eL (eT3 eI eI eI)) s.2.1)), some (.val (eB s.2.2)), none, none, none, none, none, none])) (rf_whileM (E := (fun (s : ((List (List Int)) × (List (Int × Int × Int)) × Bool)) => [some (.bor ((eL (eL (eV eI))) words_)), some (.val ((eL (eT3 eI eI eI)) ties_)), some (.own ((eL (eL eI)) s.1)), some (.own ((eL (eT3 eI eI eI)) s.2.1)), some (.val (eB s.2.2)), none, none, none, none, none, none])) (fun s4 => (et_ret (p_tru (rfl : _ = M.ret (eB s4.2.2)) rfl))) (fun s4 => (s_env (env' := [some (.bor ((eL (eL (eV eI))) words_)), some (.val ((eL (eT3 eI eI eI)) ties_)), some (.own ((eL (eL eI)) s4.1)), some (.own ((eL (eT3 eI eI eI)) s4.2.1)), some (.val (eB s4.2.2)), none, none, none, none, none, none]) rfl (s_setP (rfl : _ = M.ret (eB false)) (s_forget (s_env (env' := [some (.bor ((eL (eL (eV eI))) words_)), some (.val ((eL (eT3 eI eI eI)) ties_)), some (.own ((eL (eL eI)) s4.1)), some (.own ((eL (eT3 eI eI eI)) s4.2.1)), some (.val (eB false)), none, none, none, none, none, none]) rfl (s_next (E := (fun (s : ((List (List Int)) × (List (Int × Int × Int)) × Bool)) => [some (.bor ((eL (eL (eV eI))) words_)), some (.val ((eL (eT3 eI eI eI)) ties_)), some (.own ((eL (eL eI)) s.1)), some (.own ((eL (eT3 eI eI eI)) s.2.1)), some (.val (eB s.2.2)), none, none, none, none, none, none])) (l_for (e := (eT2 eI (eT3 eI eI eI))) (i_enum (rfl : _ = M.ret ((eL (eT3 eI eI eI)) ties_))) (rf_loopM (e := (eT2 eI (eT3 eI eI eI))) (E := (fun (s : ((List (List Int)) × (List (Int × Int × Int)) × Bool)) => [some (.bor ((eL (eL (eV eI))) words_)), some (.val ((eL (eT3 eI eI eI)) ties_)), some (.own ((eL (eL eI)) s.1)), some (.own ((eL (eT3 eI eI eI)) s.2.1)), some (.val (eB s.2.2)), none, none, none, none, none, none])) (fun _ _ => rfl) (fun x5 s6 => (s_forget (s_env (env' := [some (.bor ((eL (eL (eV eI))) words_)), some (.val ((eL (eT3 eI eI eI)) ties_)), some (.own ((eL (eL eI)) s6.1)), some (.own ((eL (eT3 eI eI eI)) s6.2.1)), some (.val (eB s6.2.2)), none, some (.val (eI x5.1)), some (.val ((eT3 eI eI eI) x5.2)), none, none, none]) rfl (s_next (E := (fun (s : ((List (List Int)) × (List (Int × Int × Int)) × Bool)) => [some (.bor ((eL (eL (eV eI))) words_)), some (.val ((eL (eT3 eI eI eI)) ties_)), some (.own ((eL (eL eI)) s.1)), some (.own ((eL (eT3 eI eI eI)) s.2.1)), some (.val (eB s.2.2)), none, some (.val (eI x5.1)), some (.val ((eT3 eI eI eI) x5.2)), none, none, none])) (l_for (e := eI) (i_V (p_sl (rfl : _ = M.ret ((eT3 eI eI eI) x5.2)) po_n (po_s (rfl : _ = M.ret (eI (2 : Int)))) (o_slV _ _ _))) (rf_loopM (e := eI) (E := (fun (s : ((List (List Int)) × (List (Int × Int × Int)) × Bool)) => [some (.bor ((eL (eL (eV eI))) words_)), some (.val ((eL (eT3 eI eI eI)) ties_)), some (.own ((eL (eL eI)) s.1)), some (.own ((eL (eT3 eI eI eI)) s.2.1)), some (.val (eB s.2.2)), none, some (.val (eI x5.1)), some (.val ((eT3 eI eI eI) x5.2)), none, none, none])) (fun _ _ => rfl) (fun x7 s8 => (s_forget (s_env (env' := [some (.bor ((eL (eL (eV eI))) words_)), some (.val ((eL (eT3 eI eI eI)) ties_)), some (.own ((eL (eL eI)) s8.1)), some (.own ((eL (eT3 eI eI eI)) s8.2.1)), some (.val (eB s8.2.2)), none, some (.val (eI x5.1)), some (.val ((eT3 eI eI eI) x5.2)), some (.val (eI x7)), none, none]) rfl (s_next (E := (fun (s : ((List (List Int)) × (List (Int × Int × Int)) × Bool)) => [some (.bor ((eL (eL (eV eI))) words_)), some (.val ((eL (eT3 eI eI eI)) ties_)), some (.own ((eL (eL eI)) s.1)), some (.own ((eL (eT3 eI eI eI)) s.2.1)), some (.val (eB s.2.2)), none, some (.val (eI x5.1)), some (.val ((eT3 eI eI eI) x5.2)), some (.val (eI x7)), none, none])) (l_forE (e := eI) (i_LE (c_call (a_cons (b_PP (rfl : _ = M.ret ((eL (eL eI)) s8.1)) (rfl : _ = M.ret (eI x7)) (r_ix _ _)) (fun v9 => (a_nil (ev_ret (e := (eL eI)) rfl)))))) (fun v19 => (rf_loopM (e := eI) (E := (fun (s : ((List (List Int)) × (List (Int × Int × Int)) × Bool)) => [some (.bor ((eL (eL (eV eI))) words_)), some (.val ((eL (eT3 eI eI eI)) ties_)), some (.own ((eL (eL eI)) s.1)), some (.own ((eL (eT3 eI eI eI)) s.2.1)), some (.val (eB s.2.2)), none, some (.val (eI x5.1)), some (.val ((eT3 eI eI eI) x5.2)), some (.val (eI x7)), none, none])) (fun _ _ => rfl) (fun x10 s11 => (s_env (env' := [some (.bor ((eL (eL (eV eI))) words_)), some (.val ((eL (eT3 eI eI eI)) ties_)), some (.own ((eL (eL eI)) s11.1)), some (.own ((eL (eT3 eI eI eI)) s11.2.1)), some (.val (eB s11.2.2)), none, some (.val (eI x5.1)), some (.val ((eT3 eI eI eI) x5.2)), some (.val (eI x7)), some (.val (eI x10)), none]) rfl (s_next (E := (fun (s : ((List (List Int)) × (List (Int × Int × Int)) × Bool)) => [some (.bor ((eL (eL (eV eI))) words_)), some (.val ((eL (eT3 eI eI eI)) ties_)), some (.own ((eL (eL eI)) s.1)), some (.own ((eL (eT3 eI eI eI)) s.2.1)), some (.val (eB s.2.2)), none, some (.val (eI x5.1)), some (.val ((eT3 eI eI eI) x5.2)), some (.val (eI x7)), some (.val (eI x10)), none])) (s_if (r_not (r_truE (c_call (a_consP (d := (eL (eL (eV eI))) words_) (rfl : _ = M.ret ((eL (eL (eV eI))) words_)) (a_consP (d := (eL (eL eI)) s11.1) (rfl : _ = M.ret ((eL (eL eI)) s11.1)) (a_consP (d := eI x7) (rfl : _ = M.ret (eI x7)) (a_consP (d := eI x10) (rfl : _ = M.ret (eI x10)) (a_consP (d := (eT3 eI eI eI) x5.2) (rfl : _ = M.ret ((eT3 eI eI eI) x5.2)) (a_nil (rf_partners _ _ _ _ _ _)))))))) (fun v12 => (t_L _)))) (s_env (env' := [some (.bor ((eL (eL (eV eI))) words_)), some (.val ((eL (eT3 eI eI eI)) ties_)), some (.own ((eL (eL eI)) s11.1)), some (.own ((eL (eT3 eI eI eI)) s11.2.1)), some (.val (eB s11.2.2)), none, some (.val (eI x5.1)), some (.val ((eT3 eI eI eI) x5.2)), some (.val (eI x7)), some (.val (eI x10)), none]) rfl (s_putLE (e := (eL eI)) (xs := s11.1) (k := x7) (r_lcE rfl (i_LE (b_PP (rfl : _ = M.ret ((eL (eL eI)) s11.1)) (rfl : _ = M.ret (eI x7)) (r_ix _ _))) (fun _ => rfl) (fun x13 => (et_ret (p_binT (rfl : _ = M.ret (eI x13)) (rfl : _ = M.ret (eI x10)) (o_neE cI (by decide) _ _)))) (fun x13 => (ev_ret (e := eI) (rfl : _ = M.ret (eI x13))))) (rfl : _ = M.ret (eI x7)) rfl (fun left_v15 => (s_env (env' := [some (.bor ((eL (eL (eV eI))) words_)), some (.val ((eL (eT3 eI eI eI)) ties_)), some (.own ((eL (eL eI)) left_v15)), some (.own ((eL (eT3 eI eI eI)) s11.2.1)), some (.val (eB s11.2.2)), none, some (.val (eI x5.1)), some (.val ((eT3 eI eI eI) x5.2)), some (.val (eI x7)), some (.val (eI x10)), none]) rfl (s_appP (e := (eT3 eI eI eI)) (xs := s11.2.1) (x := (x7, x10, x5.1)) (p_tup (ds := [eI x7, eI x10, eI x5.1]) (p_cons (rfl : _ = M.ret (eI x7)) (p_cons (rfl : _ = M.ret (eI x10)) (p_cons (rfl : _ = M.ret (eI x5.1)) p_nil))) (p_len (n := 3) (by decide))) rfl (fun rows_v16 => (s_env (env' := [some (.bor ((eL (eL (eV eI))) words_)), some (.val ((eL (eT3 eI eI eI)) ties_)), some (.own ((eL (eL eI)) left_v15)), some (.own ((eL (eT3 eI eI eI)) rows_v16)), some (.val (eB s11.2.2)), none, some (.val (eI x5.1)), some (.val ((eT3 eI eI eI) x5.2)), some (.val (eI x7)), some (.val (eI x10)), none]) rfl (s_setP (rfl : _ = M.ret (eB true)) (e_goN rfl))))))))) (e_goN rfl)) (fun s18 => (e_goX rfl))))) v19 (s8.1, s8.2.1, s8.2.2)))) (fun s20 => (e_goX rfl)))))) (cutD [x5.2.1, x5.2.2.1, x5.2.2.2] none (some (2 : Int))) (s6.1, s6.2.1, s6.2.2))) (fun s22 => (e_goX rfl)))))) (enumT 0 ties_) (s4.1, s4.2.1, false))) (fun s24 => (e_goX rfl)))))))) 100 (left_v2, rows_v3, true)) (fun s25 => (s_frzO (d := (eL (eT3 eI eI eI)) s25.2.1) rfl (s_frzO (d := (eL (eL eI)) s25.1) rfl (s_env (env' := [some (.bor ((eL (eL (eV eI))) words_)), some (.val ((eL (eT3 eI eI eI)) ties_)), some (.val ((eL (eL eI)) s25.1)), some (.val ((eL (eT3 eI eI eI)) s25.2.1)), some (.val (eB s25.2.2)), none, none, none, none, none, none]) rfl (s_retP (r := (s25.1, s25.2.1)) (x := (s25.1, s25.2.1)) (fun _ => Or.inl rfl) (p_tup (ds := [(eL (eL eI)) s25.1, (eL (eT3 eI eI eI)) s25.2.1]) (p_cons (rfl : _ = M.ret ((eL (eL eI)) s25.1)) (p_cons (rfl : _ = M.ret ((eL (eT3 eI eI eI)) s25.2.1)) p_nil)) (p_len (n := 2) (by decide)))))))))))))))))))
end K74

set_option Elab.async false
set_option linter.all false
set_option maxRecDepth 100000
set_option maxHeartbeats 0
namespace K74
open PySem PySem.Spec L2 DL
def t_fits_on (words_ : (List (List (List Int)))) (ties_ : (List (Int × Int × Int))) (chosen_ : (List Int)) : M Bool := (((lcM (fun x1 => (M.ret true)) (fun x1 => (((ixM words_ x1.1) >>= fun v2 => (ixM v2 x1.2)) >>= fun v4 => .ret [v4]))) (enumT 0 chosen_)) >>= fun v5 => (catM v5 (cutD words_ (some ((chosen_.length : Nat) : Int)) none))) >>= fun kept_v7 => ((t_left_out kept_v7 ties_)) >>= fun u8 => .ret ((u8.1.map (fun x9 => (decide ((0 : Int) < ((x9.length : Nat) : Int))))).all id)
theorem rf_fits_on (k : Nat) (words_ : (List (List (List Int)))) (ties_ : (List (Int × Int × Int))) (chosen_ : (List Int)) : Ev eB (f_fits_on (k + 3) [(eL (eL (eV eI))) words_, (eL (eT3 eI eI eI)) ties_, (eL eI) chosen_]) (t_fits_on words_ ties_ chosen_) := by
  show Ev eB (fnM 9 [true, false, true] (b_fits_on (k + 2)) [(eL (eL (eV eI))) words_, (eL (eT3 eI eI eI)) ties_, (eL eI) chosen_]) _
  exact rf_fn
    (s_env (env' := [some (.bor ((eL (eL (eV eI))) words_)), some (.val ((eL (eT3 eI eI eI)) ties_)), some (.bor ((eL eI) chosen_)), none, none, none, none, none, none]) rfl (s_setE (e := (eL (eL (eV eI)))) (b_EP (r_lc rfl (i_enum (rfl : _ = M.ret ((eL eI) chosen_))) (fun _ => rfl) (fun x1 => (et_ret rfl)) (fun x1 => (r_lst (a_cons (b_EP (b_PP (rfl : _ = M.ret ((eL (eL (eV eI))) words_)) (rfl : _ = M.ret (eI x1.1)) (r_ix _ _)) (rfl : _ = M.ret (eI x1.2)) (fun v2 => (r_ix _ _))) (fun v4 => (a_nil (k_disp (R := Re (eL (eV eI))) (r := ([v4] : (List (List Int)))) (p_len (n := 1) (by decide)) rfl))))))) (p_sl (rfl : _ = M.ret ((eL (eL (eV eI))) words_)) (po_s (p_call (p_cons (rfl : _ = M.ret ((eL eI) chosen_)) p_nil) (o_lenL _))) po_n (o_slL _ _ _)) (fun v5 => (r_cat _ _))) (fun kept_v7 => (s_env (env' := [some (.bor ((eL (eL (eV eI))) words_)), some (.val ((eL (eT3 eI eI eI)) ties_)), some (.bor ((eL eI) chosen_)), some (.val ((eL (eL (eV eI))) kept_v7)), none, none, none, none, none]) rfl (s_asgE (e := (eT2 (eL (eL eI)) (eL (eT3 eI eI eI)))) (c_call (a_consP (d := (eL (eL (eV eI))) kept_v7) (rfl : _ = M.ret ((eL (eL (eV eI))) kept_v7)) (a_consP (d := (eL (eT3 eI eI eI)) ties_) (rfl : _ = M.ret ((eL (eT3 eI eI eI)) ties_)) (a_nil (rf_left_out _ _ _))))) (fun _ => rfl) (fun u8 => (s_env (env' := [some (.bor ((eL (eL (eV eI))) words_)), some (.val ((eL (eT3 eI eI eI)) ties_)), some (.bor ((eL eI) chosen_)), some (.val ((eL (eL (eV eI))) kept_v7)), some (.val ((eL (eL eI)) u8.1)), some (.val ((eL (eT3 eI eI eI)) u8.2)), none, none, none]) rfl (s_retP (r := ((u8.1.map (fun x9 => (decide ((0 : Int) < ((x9.length : Nat) : Int))))).all id)) (x := ((u8.1.map (fun x9 => (decide ((0 : Int) < ((x9.length : Nat) : Int))))).all id)) (fun _ => Or.inl rfl) (p_call (p_cons (p_lcA (e := (eL eI)) (f := eB) (xs := u8.1) (g := fun x9 => (decide ((0 : Int) < ((x9.length : Nat) : Int)))) rfl (i_L (rfl : _ = M.ret ((eL (eL eI)) u8.1))) (fun _ => rfl) (fun x9 => (p_bin (p_call (p_cons (rfl : _ = M.ret ((eL eI) x9)) p_nil) (o_lenL _)) (rfl : _ = M.ret (eI (0 : Int))) rfl))) p_nil) (o_all _))))))))))
end K74

set_option Elab.async false
set_option linter.all false
set_option maxRecDepth 100000
set_option maxHeartbeats 0
namespace K74
open PySem PySem.Spec L2 DL
def t_agreed (words_ : (List (List (List Int)))) (ties_ : (List (Int × Int × Int))) : M D := ((t_left_out words_ ties_)) >>= fun u1 => ((rgM 0 ((words_.length : Nat) : Int)) >>= fun v4 => (lcM (fun x2 => (((ixM u1.1 x2) >>= fun v3 => .ret (!v3.isEmpty)) >>= fun kb => .ret (!kb))) (fun x2 => (M.ret x2))) v4) >>= fun empty_v5 => (if (!empty_v5.isEmpty) then .ret ((eT2 eS (eL (eT3 eI eI eI))) (s_never, u1.2)) else (M.ret ([] : (List Int))) >>= fun chosen_v6 => (((rgM 0 ((words_.length : Nat) : Int)) >>= fun v16 => loopR (fun x7 s8 => (((ixM u1.1 x7) >>= fun v14 => loopR (fun x9 s10 => ((((catM s10 [x9]) >>= fun v11 => (t_fits_on words_ ties_ v11)) >>= fun v12 => .ret v12) >>= fun kb => if kb then appM s10 x9 >>= fun chosen_v13 => .ret (.brk chosen_v13) else .ret (.go s10))) v14 s8) : M (Fw (List Int) D)) >>= contR (fun s15 => .ret (.go s15)) (fun r => (Fw.back r))) v16 chosen_v6) : M (Fw (List Int) D)) >>= contR (fun s17 => .ret ((eT2 eS (eL eI)) (s_forms, s17))) (fun r => r))
theorem rf_agreed (k : Nat) (words_ : (List (List (List Int)))) (ties_ : (List (Int × Int × Int))) : Ev eD (f_agreed (k + 4) [(eL (eL (eV eI))) words_, (eL (eT3 eI eI eI)) ties_]) (t_agreed words_ ties_) := by
  show Ev eD (fnM 8 [true, false] (b_agreed (k + 3)) [(eL (eL (eV eI))) words_, (eL (eT3 eI eI eI)) ties_]) _
  exact rf_fn
    (s_env (env' := [some (.bor ((eL (eL (eV eI))) words_)), some (.val ((eL (eT3 eI eI eI)) ties_)), none, none, none, none, none, none]) rfl (s_asgE (e := (eT2 (eL (eL eI)) (eL (eT3 eI eI eI)))) (c_call (a_consP (d := (eL (eL (eV eI))) words_) (rfl : _ = M.ret ((eL (eL (eV eI))) words_)) (a_consP (d := (eL (eT3 eI eI eI)) ties_) (rfl : _ = M.ret ((eL (eT3 eI eI eI)) ties_)) (a_nil (rf_left_out _ _ _))))) (fun _ => rfl) (fun u1 => (s_env (env' := [some (.bor ((eL (eL (eV eI))) words_)), some (.val ((eL (eT3 eI eI eI)) ties_)), none, none, none, some (.val ((eL (eL eI)) u1.1)), some (.val ((eL (eT3 eI eI eI)) u1.2)), none]) rfl (s_setE (e := (eL eI)) (r_lcE rfl (i_rg1 (p_call (p_cons (rfl : _ = M.ret ((eL (eL (eV eI))) words_)) p_nil) (o_lenL _))) (fun _ => rfl) (fun x2 => (r_not (r_truE (b_PP (rfl : _ = M.ret ((eL (eL eI)) u1.1)) (rfl : _ = M.ret (eI x2)) (r_ix _ _)) (fun v3 => (t_L _))))) (fun x2 => (ev_ret (e := eI) (rfl : _ = M.ret (eI x2))))) (fun empty_v5 => (s_env (env' := [some (.bor ((eL (eL (eV eI))) words_)), some (.val ((eL (eT3 eI eI eI)) ties_)), some (.val ((eL eI) empty_v5)), none, none, some (.val ((eL (eL eI)) u1.1)), some (.val ((eL (eT3 eI eI eI)) u1.2)), none]) rfl (s_iffP (p_tru (rfl : _ = M.ret ((eL eI) empty_v5)) (t_L _)) (s_env (env' := [some (.bor ((eL (eL (eV eI))) words_)), some (.val ((eL (eT3 eI eI eI)) ties_)), some (.val ((eL eI) empty_v5)), none, none, some (.val ((eL (eL eI)) u1.1)), some (.val ((eL (eT3 eI eI eI)) u1.2)), none]) rfl (s_retP (r := ((eT2 eS (eL (eT3 eI eI eI))) (s_never, u1.2))) (x := ((eT2 eS (eL (eT3 eI eI eI))) (s_never, u1.2))) (fun _ => ⟨(fun z => nomatch z), Or.inl rfl⟩) (p_tup (ds := [eS s_never, (eL (eT3 eI eI eI)) u1.2]) (p_cons (rfl : _ = M.ret (eS s_never)) (p_cons (rfl : _ = M.ret ((eL (eT3 eI eI eI)) u1.2)) p_nil)) (p_len (n := 2) (by decide))))) (s_skip (s_env (env' := [some (.bor ((eL (eL (eV eI))) words_)), some (.val ((eL (eT3 eI eI eI)) ties_)), some (.val ((eL eI) empty_v5)), none, none, some (.val ((eL (eL eI)) u1.1)), some (.val ((eL (eT3 eI eI eI)) u1.2)), none]) rfl (s_setOE (e := (eL eI)) (ev_ret (e := (eL eI)) (p_lstE (e := eI) (xs := ([] : List Int)) p_nil (p_len (n := 0) (by decide)))) (fun chosen_v6 => (s_forget (s_env (env' := [some (.bor ((eL (eL (eV eI))) words_)), some (.val ((eL (eT3 eI eI eI)) ties_)), some (.val ((eL eI) empty_v5)), some (.own ((eL eI) chosen_v6)), none, some (.val ((eL (eL eI)) u1.1)), some (.val ((eL (eT3 eI eI eI)) u1.2)), none]) rfl (s_nextR (E := (fun (s : (List Int)) => [some (.bor ((eL (eL (eV eI))) words_)), some (.val ((eL (eT3 eI eI eI)) ties_)), some (.val ((eL eI) empty_v5)), some (.own ((eL eI) s)), none, some (.val ((eL (eL eI)) u1.1)), some (.val ((eL (eT3 eI eI eI)) u1.2)), none])) (eρ := eD) (f := fun r => r) (fun _ _ => Or.inl rfl) (l_forE (e := eI) (i_rg1 (p_call (p_cons (rfl : _ = M.ret ((eL (eL (eV eI))) words_)) p_nil) (o_lenL _))) (fun v16 => (rf_loopR (e := eI) (E := (fun (s : (List Int)) => [some (.bor ((eL (eL (eV eI))) words_)), some (.val ((eL (eT3 eI eI eI)) ties_)), some (.val ((eL eI) empty_v5)), some (.own ((eL eI) s)), none, some (.val ((eL (eL eI)) u1.1)), some (.val ((eL (eT3 eI eI eI)) u1.2)), none])) (eρ := eD) (fun _ _ => rfl) (fun x7 s8 => (s_forget (s_env (env' := [some (.bor ((eL (eL (eV eI))) words_)), some (.val ((eL (eT3 eI eI eI)) ties_)), some (.val ((eL eI) empty_v5)), some (.own ((eL eI) s8)), some (.val (eI x7)), some (.val ((eL (eL eI)) u1.1)), some (.val ((eL (eT3 eI eI eI)) u1.2)), none]) rfl (s_nextR (E := (fun (s : (List Int)) => [some (.bor ((eL (eL (eV eI))) words_)), some (.val ((eL (eT3 eI eI eI)) ties_)), some (.val ((eL eI) empty_v5)), some (.own ((eL eI) s)), some (.val (eI x7)), some (.val ((eL (eL eI)) u1.1)), some (.val ((eL (eT3 eI eI eI)) u1.2)), none])) (eρ := eD) (f := fun r => (Fw.back r)) (fun _ _ => rfl) (l_forE (e := eI) (i_LE (b_PP (rfl : _ = M.ret ((eL (eL eI)) u1.1)) (rfl : _ = M.ret (eI x7)) (r_ix _ _))) (fun v14 => (rf_loopR (e := eI) (E := (fun (s : (List Int)) => [some (.bor ((eL (eL (eV eI))) words_)), some (.val ((eL (eT3 eI eI eI)) ties_)), some (.val ((eL eI) empty_v5)), some (.own ((eL eI) s)), some (.val (eI x7)), some (.val ((eL (eL eI)) u1.1)), some (.val ((eL (eT3 eI eI eI)) u1.2)), none])) (eρ := eD) (fun _ _ => rfl) (fun x9 s10 => (s_env (env' := [some (.bor ((eL (eL (eV eI))) words_)), some (.val ((eL (eT3 eI eI eI)) ties_)), some (.val ((eL eI) empty_v5)), some (.own ((eL eI) s10)), some (.val (eI x7)), some (.val ((eL (eL eI)) u1.1)), some (.val ((eL (eT3 eI eI eI)) u1.2)), some (.val (eI x9))]) rfl (s_iff (r_truE (c_call (a_consP (d := (eL (eL (eV eI))) words_) (rfl : _ = M.ret ((eL (eL (eV eI))) words_)) (a_consP (d := (eL (eT3 eI eI eI)) ties_) (rfl : _ = M.ret ((eL (eT3 eI eI eI)) ties_)) (a_cons (b_PP (rfl : _ = M.ret ((eL eI) s10)) (p_lstE (e := eI) (xs := [x9]) (p_cons (rfl : _ = M.ret (eI x9)) p_nil) (p_len (n := 1) (by decide))) (r_cat _ _)) (fun v11 => (a_nil (rf_fits_on _ _ _ _))))))) (fun v12 => rfl)) (s_env (env' := [some (.bor ((eL (eL (eV eI))) words_)), some (.val ((eL (eT3 eI eI eI)) ties_)), some (.val ((eL eI) empty_v5)), some (.own ((eL eI) s10)), some (.val (eI x7)), some (.val ((eL (eL eI)) u1.1)), some (.val ((eL (eT3 eI eI eI)) u1.2)), some (.val (eI x9))]) rfl (s_appP (e := eI) (xs := s10) (x := x9) (rfl : _ = M.ret (eI x9)) rfl (fun chosen_v13 => (s_env (env' := [some (.bor ((eL (eL (eV eI))) words_)), some (.val ((eL (eT3 eI eI eI)) ties_)), some (.val ((eL eI) empty_v5)), some (.own ((eL eI) chosen_v13)), some (.val (eI x7)), some (.val ((eL (eL eI)) u1.1)), some (.val ((eL (eT3 eI eI eI)) u1.2)), some (.val (eI x9))]) rfl (e_brk (ws := [7]) (x := Fw.brk chosen_v13) ⟨(fun z => nomatch z), rfl⟩))))) (s_skipF (e_goT rfl))))) v14 s8))) (fun s15 => (e_goT rfl)))))) v16 chosen_v6))) (fun s17 => (s_frzO (d := (eL eI) s17) rfl (s_env (env' := [some (.bor ((eL (eL (eV eI))) words_)), some (.val ((eL (eT3 eI eI eI)) ties_)), some (.val ((eL eI) empty_v5)), some (.val ((eL eI) s17)), none, some (.val ((eL (eL eI)) u1.1)), some (.val ((eL (eT3 eI eI eI)) u1.2)), none]) rfl (s_retP (r := ((eT2 eS (eL eI)) (s_forms, s17))) (x := ((eT2 eS (eL eI)) (s_forms, s17))) (fun _ => Or.inl rfl) (p_tup (ds := [eS s_forms, (eL eI) s17]) (p_cons (rfl : _ = M.ret (eS s_forms)) (p_cons (rfl : _ = M.ret ((eL eI) s17)) p_nil)) (p_len (n := 2) (by decide))))))))))))))))))))))
end K74

set_option Elab.async false
set_option linter.all false
set_option maxRecDepth 100000
set_option maxHeartbeats 0
namespace K74
open PySem PySem.Spec L2 DL
def t_agreed_fault (words_ : (List (List (List Int)))) (ties_ : (List (Int × Int × Int))) (told_ : D) : M D := (((dIx told_ (eI (0 : Int))) >>= fun v1 => (asBM (dEq v1 (eS s_forms)))) >>= fun kb => if kb then ((((dIx told_ (eI (1 : Int))) >>= fun v3 => (asIM (dLen [v3]))) >>= fun v4 => .ret (!decide (v4 = ((words_.length : Nat) : Int)))) >>= fun kb => if kb then .ret ((eT1 eS) s_length) else ((((dIx told_ (eI (1 : Int))) >>= enumDM) >>= fun v11 => loopR (fun x6 s7 => ((((asI x6.2) >>= fun v9 => if (decide ((0 : Int) ≤ v9)) then ((ixM words_ x6.1) >>= fun v8 => .ret ((v8.length : Nat) : Int)) >>= fun v10 => .ret (decide (v9 < v10)) else .ret false) >>= fun kb => .ret (!kb)) >>= fun kb => if kb then .ret (.back ((eT2 eS eI) (s_form, x6.1))) else .ret (.go ()))) v11 ()) : M (Fw Unit D)) >>= contR (fun s12 => ((loopR (fun x13 s14 => (((((ixM words_ x13.2.1) >>= fun v17 => (((dIx told_ (eI (1 : Int))) >>= fun v15 => (dIx v15 (eI x13.2.1))) >>= asI) >>= fun v18 => (ixM v17 v18)) >>= fun v19 => (ixM v19 x13.2.2.2)) >>= fun v27 => (((ixM words_ x13.2.2.1) >>= fun v23 => (((dIx told_ (eI (1 : Int))) >>= fun v21 => (dIx v21 (eI x13.2.2.1))) >>= asI) >>= fun v24 => (ixM v23 v24)) >>= fun v25 => (ixM v25 x13.2.2.2)) >>= fun v28 => .ret (!decide (v27 = v28))) >>= fun kb => if kb then .ret (.back ((eT2 eS eI) (s_tie, x13.1))) else .ret (.go ()))) (enumT 0 ties_) ()) : M (Fw Unit D)) >>= contR (fun s30 => .ret (eN ())) (fun r => r)) (fun r => r)) else ((lcM (fun x31 => (M.ret true)) (fun x31 => (rgM 0 ((x31.length : Nat) : Int)))) words_) >>= fun left_v32 => (((((dIx told_ (eI (1 : Int))) >>= asLT3) >>= fun v33 => .ret (enumT 0 v33)) >>= fun v48 => loopR (fun x34 s35 => ((if (!((decide ((0 : Int) ≤ x34.2.1)) && (decide (x34.2.1 < ((words_.length : Nat) : Int))))) then .ret true else (((ixM s35 x34.2.1) >>= fun v37 => .ret (!memT x34.2.2.1 v37)) >>= fun kb => if kb then .ret true else (if (!((decide ((0 : Int) ≤ x34.2.2.2)) && (decide (x34.2.2.2 < ((ties_.length : Nat) : Int))))) then .ret true else ((((ixM ties_ x34.2.2.2) >>= fun v38 => .ret [v38.1, v38.2.1, v38.2.2]) >>= fun v39 => .ret (cutD v39 none (some (2 : Int)))) >>= fun v41 => .ret (!memT x34.2.1 v41))))) >>= fun kb => if kb then .ret (.back ((eT2 eS eI) (s_row, x34.1))) else ((((ixM ties_ x34.2.2.2) >>= fun v42 => (t_partners words_ s35 x34.2.1 x34.2.2.1 v42)) >>= fun v43 => .ret (!v43.isEmpty)) >>= fun kb => if kb then .ret (.back ((eT2 eS eI) (s_partner, x34.1))) else ((ixM s35 x34.2.1) >>= fun v45 => (lcM (fun x44 => (M.ret (!decide (x44 = x34.2.2.1)))) (fun x44 => (M.ret x44))) v45) >>= fun v47 => setM s35 x34.2.1 v47 >>= fun left_v46 => .ret (.go left_v46)))) v48 left_v32) : M (Fw (List (List Int)) D)) >>= contR (fun s49 => .ret (if ((s49.map (fun x50 => (decide (((x50.length : Nat) : Int) = (0 : Int))))).any id) then (eN ()) else ((eT1 eS) s_left))) (fun r => r))
theorem rf_agreed_fault (k : Nat) (words_ : (List (List (List Int)))) (ties_ : (List (Int × Int × Int))) (told_ : D) : Ev eD (f_agreed_fault (k + 2) [(eL (eL (eV eI))) words_, (eL (eT3 eI eI eI)) ties_, eD told_]) (t_agreed_fault words_ ties_ told_) := by
  show Ev eD (fnM 13 [true, false, true] (b_agreed_fault (k + 1)) [(eL (eL (eV eI))) words_, (eL (eT3 eI eI eI)) ties_, eD told_]) _
  exact rf_fn
    (s_env (env' := [some (.bor ((eL (eL (eV eI))) words_)), some (.val ((eL (eT3 eI eI eI)) ties_)), some (.bor (eD told_)), none, none, none, none, none, none, none, none, none, none]) rfl (s_iff (t_E (b_EP (b_PP (rfl : _ = M.ret (eD told_)) (rfl : _ = M.ret (eI (0 : Int))) (ev_id _)) (rfl : _ = M.ret (eS s_forms)) (fun v1 => (ev_asB _)))) (s_env (env' := [some (.bor ((eL (eL (eV eI))) words_)), some (.val ((eL (eT3 eI eI eI)) ties_)), some (.bor (eD told_)), none, none, none, none, none, none, none, none, none, none]) rfl (s_iff (t_E (b_EP (c_call (a_cons (b_PP (rfl : _ = M.ret (eD told_)) (rfl : _ = M.ret (eI (1 : Int))) (ev_id _)) (fun v3 => (a_nil (ev_asI _))))) (p_call (p_cons (rfl : _ = M.ret ((eL (eL (eV eI))) words_)) p_nil) (o_lenL _)) (fun v4 => (ev_ret (e := eB) (o_neE cI (by decide) _ _))))) (s_env (env' := [some (.bor ((eL (eL (eV eI))) words_)), some (.val ((eL (eT3 eI eI eI)) ties_)), some (.bor (eD told_)), none, none, none, none, none, none, none, none, none, none]) rfl (s_retP (r := ((eT1 eS) s_length)) (x := ((eT1 eS) s_length)) (fun _ => ⟨(fun z => nomatch z), ⟨(fun z => nomatch z), Or.inl rfl⟩⟩) (p_tup (ds := [eS s_length]) (p_cons (rfl : _ = M.ret (eS s_length)) p_nil) (p_len (n := 1) (by decide))))) (s_skip (s_forget (s_env (env' := [some (.bor ((eL (eL (eV eI))) words_)), some (.val ((eL (eT3 eI eI eI)) ties_)), some (.bor (eD told_)), none, none, none, none, none, none, none, none, none, none]) rfl (s_nextR (E := (fun (s : Unit) => [some (.bor ((eL (eL (eV eI))) words_)), some (.val ((eL (eT3 eI eI eI)) ties_)), some (.bor (eD told_)), none, none, none, none, none, none, none, none, none, none])) (eρ := eD) (f := fun r => r) (fun _ _ => ⟨(fun z => nomatch z), Or.inl rfl⟩) (l_forE (e := (eT2 eI eD)) (i_enumDE (b_PP (rfl : _ = M.ret (eD told_)) (rfl : _ = M.ret (eI (1 : Int))) (ev_id _))) (fun v11 => (rf_loopR (e := (eT2 eI eD)) (E := (fun (s : Unit) => [some (.bor ((eL (eL (eV eI))) words_)), some (.val ((eL (eT3 eI eI eI)) ties_)), some (.bor (eD told_)), none, none, none, none, none, none, none, none, none, none])) (eρ := eD) (fun _ _ => rfl) (fun x6 s7 => (s_env (env' := [some (.bor ((eL (eL (eV eI))) words_)), some (.val ((eL (eT3 eI eI eI)) ties_)), some (.bor (eD told_)), none, none, some (.val (eI x6.1)), some (.val (eD x6.2)), none, none, none, none, none, none]) rfl (s_iff (r_not (t_TE (r_chainEX (e := eI) (f := eI) (p := fun v9 => (decide ((0 : Int) ≤ v9))) (q := fun v9 v10 => (decide (v9 < v10))) (rfl : _ = M.ret (eI (0 : Int))) (q_P q_I (rfl : _ = M.ret (eD x6.2))) (c_call (a_cons (b_PP (rfl : _ = M.ret ((eL (eL (eV eI))) words_)) (rfl : _ = M.ret (eI x6.1)) (r_ix _ _)) (fun v8 => (a_nil (ev_ret (e := eI) (o_lenL _)))))) (fun _ => rfl) (fun _ _ => rfl)))) (s_env (env' := [some (.bor ((eL (eL (eV eI))) words_)), some (.val ((eL (eT3 eI eI eI)) ties_)), some (.bor (eD told_)), none, none, some (.val (eI x6.1)), some (.val (eD x6.2)), none, none, none, none, none, none]) rfl (s_retP (r := ((eT2 eS eI) (s_form, x6.1))) (x := Fw.back ((eT2 eS eI) (s_form, x6.1))) (fun _ => ⟨(fun z => nomatch z), rfl⟩) (p_tup (ds := [eS s_form, eI x6.1]) (p_cons (rfl : _ = M.ret (eS s_form)) (p_cons (rfl : _ = M.ret (eI x6.1)) p_nil)) (p_len (n := 2) (by decide))))) (s_skip (e_goT rfl))))) v11 ()))) (fun s12 => (s_forget (s_env (env' := [some (.bor ((eL (eL (eV eI))) words_)), some (.val ((eL (eT3 eI eI eI)) ties_)), some (.bor (eD told_)), none, none, none, none, none, none, none, none, none, none]) rfl (s_nextR (E := (fun (s : Unit) => [some (.bor ((eL (eL (eV eI))) words_)), some (.val ((eL (eT3 eI eI eI)) ties_)), some (.bor (eD told_)), none, none, none, none, none, none, none, none, none, none])) (eρ := eD) (f := fun r => r) (fun _ _ => ⟨(fun z => nomatch z), Or.inl rfl⟩) (l_for (e := (eT2 eI (eT3 eI eI eI))) (i_enum (rfl : _ = M.ret ((eL (eT3 eI eI eI)) ties_))) (rf_loopR (e := (eT2 eI (eT3 eI eI eI))) (E := (fun (s : Unit) => [some (.bor ((eL (eL (eV eI))) words_)), some (.val ((eL (eT3 eI eI eI)) ties_)), some (.bor (eD told_)), none, none, none, none, none, none, none, none, none, none])) (eρ := eD) (fun _ _ => rfl) (fun x13 s14 => (s_env (env' := [some (.bor ((eL (eL (eV eI))) words_)), some (.val ((eL (eT3 eI eI eI)) ties_)), some (.bor (eD told_)), none, none, none, none, some (.val (eI x13.1)), none, some (.val (eI x13.2.1)), some (.val (eI x13.2.2.1)), some (.val (eI x13.2.2.2)), none]) rfl (s_iff (t_E (b_EE (b_EP (b_EE (b_PP (rfl : _ = M.ret ((eL (eL (eV eI))) words_)) (rfl : _ = M.ret (eI x13.2.1)) (r_ix _ _)) (q_E q_I (b_EP (b_PP (rfl : _ = M.ret (eD told_)) (rfl : _ = M.ret (eI (1 : Int))) (ev_id _)) (rfl : _ = M.ret (eI x13.2.1)) (fun v15 => (ev_id _)))) (fun v17 v18 => (r_ix _ _))) (rfl : _ = M.ret (eI x13.2.2.2)) (fun v19 => (r_ixV _ _))) (b_EP (b_EE (b_PP (rfl : _ = M.ret ((eL (eL (eV eI))) words_)) (rfl : _ = M.ret (eI x13.2.2.1)) (r_ix _ _)) (q_E q_I (b_EP (b_PP (rfl : _ = M.ret (eD told_)) (rfl : _ = M.ret (eI (1 : Int))) (ev_id _)) (rfl : _ = M.ret (eI x13.2.2.1)) (fun v21 => (ev_id _)))) (fun v23 v24 => (r_ix _ _))) (rfl : _ = M.ret (eI x13.2.2.2)) (fun v25 => (r_ixV _ _))) (fun v27 v28 => (ev_ret (e := eB) (o_neE cI (by decide) _ _))))) (s_env (env' := [some (.bor ((eL (eL (eV eI))) words_)), some (.val ((eL (eT3 eI eI eI)) ties_)), some (.bor (eD told_)), none, none, none, none, some (.val (eI x13.1)), none, some (.val (eI x13.2.1)), some (.val (eI x13.2.2.1)), some (.val (eI x13.2.2.2)), none]) rfl (s_retP (r := ((eT2 eS eI) (s_tie, x13.1))) (x := Fw.back ((eT2 eS eI) (s_tie, x13.1))) (fun _ => ⟨(fun z => nomatch z), rfl⟩) (p_tup (ds := [eS s_tie, eI x13.1]) (p_cons (rfl : _ = M.ret (eS s_tie)) (p_cons (rfl : _ = M.ret (eI x13.1)) p_nil)) (p_len (n := 2) (by decide))))) (s_skip (e_goT rfl))))) (enumT 0 ties_) ())) (fun s30 => (s_env (env' := [some (.bor ((eL (eL (eV eI))) words_)), some (.val ((eL (eT3 eI eI eI)) ties_)), some (.bor (eD told_)), none, none, none, none, none, none, none, none, none, none]) rfl (s_retP (r := (eN ())) (x := (eN ())) (fun _ => ⟨(fun z => nomatch z), Or.inl rfl⟩) (rfl : _ = M.ret (eN ()))))))))))))))) (s_skipF (s_env (env' := [some (.bor ((eL (eL (eV eI))) words_)), some (.val ((eL (eT3 eI eI eI)) ties_)), some (.bor (eD told_)), none, none, none, none, none, none, none, none, none, none]) rfl (s_setOE (e := (eL (eL eI))) (r_lc rfl (i_L (rfl : _ = M.ret ((eL (eL (eV eI))) words_))) (fun _ => rfl) (fun x31 => (et_ret rfl)) (fun x31 => (r_lrg1 (p_call (p_cons (rfl : _ = M.ret ((eL (eV eI)) x31)) p_nil) (o_lenL _))))) (fun left_v32 => (s_forget (s_env (env' := [some (.bor ((eL (eL (eV eI))) words_)), some (.val ((eL (eT3 eI eI eI)) ties_)), some (.bor (eD told_)), some (.own ((eL (eL eI)) left_v32)), none, none, none, none, none, none, none, none, none]) rfl (s_nextR (E := (fun (s : (List (List Int))) => [some (.bor ((eL (eL (eV eI))) words_)), some (.val ((eL (eT3 eI eI eI)) ties_)), some (.bor (eD told_)), some (.own ((eL (eL eI)) s)), none, none, none, none, none, none, none, none, none])) (eρ := eD) (f := fun r => r) (fun _ _ => Or.inl rfl) (l_forE (e := (eT2 eI (eT3 eI eI eI))) (i_enumE (q_E q_LT3 (b_PP (rfl : _ = M.ret (eD told_)) (rfl : _ = M.ret (eI (1 : Int))) (ev_id _)))) (fun v48 => (rf_loopR (e := (eT2 eI (eT3 eI eI eI))) (E := (fun (s : (List (List Int))) => [some (.bor ((eL (eL (eV eI))) words_)), some (.val ((eL (eT3 eI eI eI)) ties_)), some (.bor (eD told_)), some (.own ((eL (eL eI)) s)), none, none, none, none, none, none, none, none, none])) (eρ := eD) (fun _ _ => rfl) (fun x34 s35 => (s_env (env' := [some (.bor ((eL (eL (eV eI))) words_)), some (.val ((eL (eT3 eI eI eI)) ties_)), some (.bor (eD told_)), some (.own ((eL (eL eI)) s35)), some (.val (eI x34.1)), some (.val (eI x34.2.1)), some (.val (eI x34.2.2.1)), some (.val (eI x34.2.2.2)), none, none, none, none, none]) rfl (s_iff (r_orP (p_not (p_TE (p_chain (rfl : _ = M.ret (eI (0 : Int))) (rfl : _ = M.ret (eI x34.2.1)) (p_call (p_cons (rfl : _ = M.ret ((eL (eL (eV eI))) words_)) p_nil) (o_lenL _)) rfl rfl))) (r_or (t_E (b_PE (rfl : _ = M.ret (eI x34.2.2.1)) (b_PP (rfl : _ = M.ret ((eL (eL eI)) s35)) (rfl : _ = M.ret (eI x34.2.1)) (r_ix _ _)) (fun v37 => (ev_ret (e := eB) (o_mnotInL cI (by decide) _ _))))) (r_orP (p_not (p_TE (p_chain (rfl : _ = M.ret (eI (0 : Int))) (rfl : _ = M.ret (eI x34.2.2.2)) (p_call (p_cons (rfl : _ = M.ret ((eL (eT3 eI eI eI)) ties_)) p_nil) (o_lenL _)) rfl rfl))) (t_E (b_PE (rfl : _ = M.ret (eI x34.2.1)) (r_sl (q_T3V (e := eI) (b_PP (rfl : _ = M.ret ((eL (eT3 eI eI eI)) ties_)) (rfl : _ = M.ret (eI x34.2.2.2)) (r_ix _ _))) po_n (po_s (rfl : _ = M.ret (eI (2 : Int)))) (fun _ => o_slV _ _ _)) (fun v41 => (ev_ret (e := eB) (o_mnotInV cI (by decide) _ _)))))))) (s_env (env' := [some (.bor ((eL (eL (eV eI))) words_)), some (.val ((eL (eT3 eI eI eI)) ties_)), some (.bor (eD told_)), some (.own ((eL (eL eI)) s35)), some (.val (eI x34.1)), some (.val (eI x34.2.1)), some (.val (eI x34.2.2.1)), some (.val (eI x34.2.2.2)), none, none, none, none, none]) rfl (s_retP (r := ((eT2 eS eI) (s_row, x34.1))) (x := Fw.back ((eT2 eS eI) (s_row, x34.1))) (fun _ => ⟨(fun z => nomatch z), rfl⟩) (p_tup (ds := [eS s_row, eI x34.1]) (p_cons (rfl : _ = M.ret (eS s_row)) (p_cons (rfl : _ = M.ret (eI x34.1)) p_nil)) (p_len (n := 2) (by decide))))) (s_skip (s_env (env' := [some (.bor ((eL (eL (eV eI))) words_)), some (.val ((eL (eT3 eI eI eI)) ties_)), some (.bor (eD told_)), some (.own ((eL (eL eI)) s35)), some (.val (eI x34.1)), some (.val (eI x34.2.1)), some (.val (eI x34.2.2.1)), some (.val (eI x34.2.2.2)), none, none, none, none, none]) rfl (s_iff (r_truE (c_call (a_consP (d := (eL (eL (eV eI))) words_) (rfl : _ = M.ret ((eL (eL (eV eI))) words_)) (a_consP (d := (eL (eL eI)) s35) (rfl : _ = M.ret ((eL (eL eI)) s35)) (a_consP (d := eI x34.2.1) (rfl : _ = M.ret (eI x34.2.1)) (a_consP (d := eI x34.2.2.1) (rfl : _ = M.ret (eI x34.2.2.1)) (a_cons (b_PP (rfl : _ = M.ret ((eL (eT3 eI eI eI)) ties_)) (rfl : _ = M.ret (eI x34.2.2.2)) (r_ix _ _)) (fun v42 => (a_nil (rf_partners _ _ _ _ _ _))))))))) (fun v43 => (t_L _))) (s_env (env' := [some (.bor ((eL (eL (eV eI))) words_)), some (.val ((eL (eT3 eI eI eI)) ties_)), some (.bor (eD told_)), some (.own ((eL (eL eI)) s35)), some (.val (eI x34.1)), some (.val (eI x34.2.1)), some (.val (eI x34.2.2.1)), some (.val (eI x34.2.2.2)), none, none, none, none, none]) rfl (s_retP (r := ((eT2 eS eI) (s_partner, x34.1))) (x := Fw.back ((eT2 eS eI) (s_partner, x34.1))) (fun _ => ⟨(fun z => nomatch z), rfl⟩) (p_tup (ds := [eS s_partner, eI x34.1]) (p_cons (rfl : _ = M.ret (eS s_partner)) (p_cons (rfl : _ = M.ret (eI x34.1)) p_nil)) (p_len (n := 2) (by decide))))) (s_skip (s_env (env' := [some (.bor ((eL (eL (eV eI))) words_)), some (.val ((eL (eT3 eI eI eI)) ties_)), some (.bor (eD told_)), some (.own ((eL (eL eI)) s35)), some (.val (eI x34.1)), some (.val (eI x34.2.1)), some (.val (eI x34.2.2.1)), some (.val (eI x34.2.2.2)), none, none, none, none, none]) rfl (s_putLE (e := (eL eI)) (xs := s35) (k := x34.2.1) (r_lcE rfl (i_LE (b_PP (rfl : _ = M.ret ((eL (eL eI)) s35)) (rfl : _ = M.ret (eI x34.2.1)) (r_ix _ _))) (fun _ => rfl) (fun x44 => (et_ret (p_binT (rfl : _ = M.ret (eI x44)) (rfl : _ = M.ret (eI x34.2.2.1)) (o_neE cI (by decide) _ _)))) (fun x44 => (ev_ret (e := eI) (rfl : _ = M.ret (eI x44))))) (rfl : _ = M.ret (eI x34.2.1)) rfl (fun left_v46 => (e_goT rfl))))))))))) v48 left_v32))) (fun s49 => (s_env (env' := [some (.bor ((eL (eL (eV eI))) words_)), some (.val ((eL (eT3 eI eI eI)) ties_)), some (.bor (eD told_)), some (.own ((eL (eL eI)) s49)), none, none, none, none, none, none, none, none, none]) rfl (s_retP (r := (if ((s49.map (fun x50 => (decide (((x50.length : Nat) : Int) = (0 : Int))))).any id) then (eN ()) else ((eT1 eS) s_left))) (x := (if ((s49.map (fun x50 => (decide (((x50.length : Nat) : Int) = (0 : Int))))).any id) then (eN ()) else ((eT1 eS) s_left))) (fun _ => Or.inl rfl) (p_ifE (e := eD) (va := (eN ())) (vb := ((eT1 eS) s_left)) (p_tru (p_call (p_cons (p_lcA (e := (eL eI)) (f := eB) (xs := s49) (g := fun x50 => (decide (((x50.length : Nat) : Int) = (0 : Int)))) rfl (i_L (rfl : _ = M.ret ((eL (eL eI)) s49))) (fun _ => rfl) (fun x50 => (p_bin (p_call (p_cons (rfl : _ = M.ret ((eL eI) x50)) p_nil) (o_lenL _)) (rfl : _ = M.ret (eI (0 : Int))) (o_eqE cI (by decide) _ _)))) p_nil) (o_any _)) rfl) (rfl : _ = M.ret (eN ())) (p_tup (ds := [eS s_left]) (p_cons (rfl : _ = M.ret (eS s_left)) p_nil) (p_len (n := 1) (by decide))))))))))))))))
end K74

set_option Elab.async false
set_option linter.all false
set_option maxRecDepth 100000
set_option maxHeartbeats 0
namespace K74
open PySem PySem.Spec L2 DL
def t_agrees (words_ : (List (List (List Int)))) (row_ : (List Int)) (tie_ : (Int × Int × Int)) : M Bool := (M.ret tie_) >>= fun u1 => (if ((decide (((row_.length : Nat) : Int) ≤ u1.1)) || (decide (((row_.length : Nat) : Int) ≤ u1.2.1))) then .ret true else ((((ixM words_ u1.1) >>= fun v2 => (ixM row_ u1.1) >>= fun v3 => (ixM v2 v3)) >>= fun v4 => (ixM v4 u1.2.2)) >>= fun v10 => (((ixM words_ u1.2.1) >>= fun v6 => (ixM row_ u1.2.1) >>= fun v7 => (ixM v6 v7)) >>= fun v8 => (ixM v8 u1.2.2)) >>= fun v11 => .ret (decide (v10 = v11))))
theorem rf_agrees (k : Nat) (words_ : (List (List (List Int)))) (row_ : (List Int)) (tie_ : (Int × Int × Int)) : Ev eB (f_agrees (k + 1) [(eL (eL (eV eI))) words_, (eL eI) row_, (eT3 eI eI eI) tie_]) (t_agrees words_ row_ tie_) := by
  show Ev eB (fnM 6 [true, true, false] (b_agrees (k + 0)) [(eL (eL (eV eI))) words_, (eL eI) row_, (eT3 eI eI eI) tie_]) _
  exact rf_fn
    (s_env (env' := [some (.bor ((eL (eL (eV eI))) words_)), some (.bor ((eL eI) row_)), some (.val ((eT3 eI eI eI) tie_)), none, none, none]) rfl (s_asgE (e := (eT3 eI eI eI)) (ev_ret (e := (eT3 eI eI eI)) (rfl : _ = M.ret ((eT3 eI eI eI) tie_))) (fun _ => rfl) (fun u1 => (s_env (env' := [some (.bor ((eL (eL (eV eI))) words_)), some (.bor ((eL eI) row_)), some (.val ((eT3 eI eI eI) tie_)), some (.val (eI u1.1)), some (.val (eI u1.2.1)), some (.val (eI u1.2.2))]) rfl (s_iffP (p_or (p_binT (rfl : _ = M.ret (eI u1.1)) (p_call (p_cons (rfl : _ = M.ret ((eL eI) row_)) p_nil) (o_lenL _)) rfl) (p_binT (rfl : _ = M.ret (eI u1.2.1)) (p_call (p_cons (rfl : _ = M.ret ((eL eI) row_)) p_nil) (o_lenL _)) rfl)) (s_env (env' := [some (.bor ((eL (eL (eV eI))) words_)), some (.bor ((eL eI) row_)), some (.val ((eT3 eI eI eI) tie_)), some (.val (eI u1.1)), some (.val (eI u1.2.1)), some (.val (eI u1.2.2))]) rfl (s_retP (r := true) (x := true) (fun _ => ⟨(fun z => nomatch z), Or.inl rfl⟩) (rfl : _ = M.ret (eB true)))) (s_skip (s_env (env' := [some (.bor ((eL (eL (eV eI))) words_)), some (.bor ((eL eI) row_)), some (.val ((eT3 eI eI eI) tie_)), some (.val (eI u1.1)), some (.val (eI u1.2.1)), some (.val (eI u1.2.2))]) rfl (s_retF (fun _ _ => Or.inl rfl) (b_EE (b_EP (b_EE (b_PP (rfl : _ = M.ret ((eL (eL (eV eI))) words_)) (rfl : _ = M.ret (eI u1.1)) (r_ix _ _)) (b_PP (rfl : _ = M.ret ((eL eI) row_)) (rfl : _ = M.ret (eI u1.1)) (r_ix _ _)) (fun v2 v3 => (r_ix _ _))) (rfl : _ = M.ret (eI u1.2.2)) (fun v4 => (r_ixV _ _))) (b_EP (b_EE (b_PP (rfl : _ = M.ret ((eL (eL (eV eI))) words_)) (rfl : _ = M.ret (eI u1.2.1)) (r_ix _ _)) (b_PP (rfl : _ = M.ret ((eL eI) row_)) (rfl : _ = M.ret (eI u1.2.1)) (r_ix _ _)) (fun v6 v7 => (r_ix _ _))) (rfl : _ = M.ret (eI u1.2.2)) (fun v8 => (r_ixV _ _))) (fun v10 v11 => (ev_ret (e := eB) (o_eqE cI (by decide) _ _))))))))))))
end K74

set_option Elab.async false
set_option linter.all false
set_option maxRecDepth 100000
set_option maxHeartbeats 0
namespace K74
open PySem PySem.Spec L2 DL
def t_count_agreed (words_ : (List (List (List Int)))) (ties_ : (List (Int × Int × Int))) : M Int := (M.ret [([] : (List Int))]) >>= fun rows_v1 => ((loopM (fun x2 s3 => (M.ret ([] : (List (List Int)))) >>= fun more_v4 => ((loopM (fun x5 s6 => (((rgM 0 ((x2.2.length : Nat) : Int)) >>= fun v16 => loopM (fun x7 s8 => ((((((lcM (fun x9 => (M.ret true)) (fun x9 => ((catM x5 [x7]) >>= fun v10 => (t_agrees words_ v10 x9)))) ties_) >>= fun v11 => .ret (v11.all id)) >>= fun v12 => .ret v12) >>= fun kb => if kb then (catM x5 [x7]) >>= fun v14 => appM s8 v14 >>= fun more_v13 => .ret more_v13 else .ret s8) : M (List (List Int))) >>= fun s15 => .ret s15) v16 s6) : M (List (List Int))) >>= fun s17 => .ret s17) s3 more_v4) : M (List (List Int))) >>= fun s19 => .ret s19) (enumT 0 words_) rows_v1) : M (List (List Int))) >>= fun s21 => .ret ((s21.length : Nat) : Int)
theorem rf_count_agreed (k : Nat) (words_ : (List (List (List Int)))) (ties_ : (List (Int × Int × Int))) : Ev eI (f_count_agreed (k + 2) [(eL (eL (eV eI))) words_, (eL (eT3 eI eI eI)) ties_]) (t_count_agreed words_ ties_) := by
  show Ev eI (fnM 9 [false, true] (b_count_agreed (k + 1)) [(eL (eL (eV eI))) words_, (eL (eT3 eI eI eI)) ties_]) _
  exact rf_fn
    (s_env (env' := [some (.val ((eL (eL (eV eI))) words_)), some (.bor ((eL (eT3 eI eI eI)) ties_)), none, none, none, none, none, none, none]) rfl (s_setE (e := (eL (eL eI))) (ev_ret (e := (eL (eL eI))) (p_lstE (e := (eL eI)) (xs := [([] : (List Int))]) (p_cons (p_lstE (e := eI) (xs := ([] : List Int)) p_nil (p_len (n := 0) (by decide))) p_nil) (p_len (n := 1) (by decide)))) (fun rows_v1 => (s_forget (s_env (env' := [some (.val ((eL (eL (eV eI))) words_)), some (.bor ((eL (eT3 eI eI eI)) ties_)), some (.val ((eL (eL eI)) rows_v1)), none, none, none, none, none, none]) rfl (s_next (E := (fun (s : (List (List Int))) => [some (.val ((eL (eL (eV eI))) words_)), some (.bor ((eL (eT3 eI eI eI)) ties_)), some (.val ((eL (eL eI)) s)), none, none, none, none, none, none])) (l_for (e := (eT2 eI (eL (eV eI)))) (i_enum (rfl : _ = M.ret ((eL (eL (eV eI))) words_))) (rf_loopM (e := (eT2 eI (eL (eV eI)))) (E := (fun (s : (List (List Int))) => [some (.val ((eL (eL (eV eI))) words_)), some (.bor ((eL (eT3 eI eI eI)) ties_)), some (.val ((eL (eL eI)) s)), none, none, none, none, none, none])) (fun _ _ => rfl) (fun x2 s3 => (s_env (env' := [some (.val ((eL (eL (eV eI))) words_)), some (.bor ((eL (eT3 eI eI eI)) ties_)), some (.val ((eL (eL eI)) s3)), some (.val (eI x2.1)), some (.val ((eL (eV eI)) x2.2)), none, none, none, none]) rfl (s_setOE (e := (eL (eL eI))) (ev_ret (e := (eL (eL eI))) (p_lstE (e := (eL eI)) (xs := ([] : List (List Int))) p_nil (p_len (n := 0) (by decide)))) (fun more_v4 => (s_forget (s_env (env' := [some (.val ((eL (eL (eV eI))) words_)), some (.bor ((eL (eT3 eI eI eI)) ties_)), some (.val ((eL (eL eI)) s3)), some (.val (eI x2.1)), some (.val ((eL (eV eI)) x2.2)), some (.own ((eL (eL eI)) more_v4)), none, none, none]) rfl (s_next (E := (fun (s : (List (List Int))) => [some (.val ((eL (eL (eV eI))) words_)), some (.bor ((eL (eT3 eI eI eI)) ties_)), some (.val ((eL (eL eI)) s3)), some (.val (eI x2.1)), some (.val ((eL (eV eI)) x2.2)), some (.own ((eL (eL eI)) s)), none, none, none])) (l_for (e := (eL eI)) (i_L (rfl : _ = M.ret ((eL (eL eI)) s3))) (rf_loopM (e := (eL eI)) (E := (fun (s : (List (List Int))) => [some (.val ((eL (eL (eV eI))) words_)), some (.bor ((eL (eT3 eI eI eI)) ties_)), some (.val ((eL (eL eI)) s3)), some (.val (eI x2.1)), some (.val ((eL (eV eI)) x2.2)), some (.own ((eL (eL eI)) s)), none, none, none])) (fun _ _ => rfl) (fun x5 s6 => (s_forget (s_env (env' := [some (.val ((eL (eL (eV eI))) words_)), some (.bor ((eL (eT3 eI eI eI)) ties_)), some (.val ((eL (eL eI)) s3)), some (.val (eI x2.1)), some (.val ((eL (eV eI)) x2.2)), some (.own ((eL (eL eI)) s6)), some (.val ((eL eI) x5)), none, none]) rfl (s_next (E := (fun (s : (List (List Int))) => [some (.val ((eL (eL (eV eI))) words_)), some (.bor ((eL (eT3 eI eI eI)) ties_)), some (.val ((eL (eL eI)) s3)), some (.val (eI x2.1)), some (.val ((eL (eV eI)) x2.2)), some (.own ((eL (eL eI)) s)), some (.val ((eL eI) x5)), none, none])) (l_forE (e := eI) (i_rg1 (p_call (p_cons (rfl : _ = M.ret ((eL (eV eI)) x2.2)) p_nil) (o_lenL _))) (fun v16 => (rf_loopM (e := eI) (E := (fun (s : (List (List Int))) => [some (.val ((eL (eL (eV eI))) words_)), some (.bor ((eL (eT3 eI eI eI)) ties_)), some (.val ((eL (eL eI)) s3)), some (.val (eI x2.1)), some (.val ((eL (eV eI)) x2.2)), some (.own ((eL (eL eI)) s)), some (.val ((eL eI) x5)), none, none])) (fun _ _ => rfl) (fun x7 s8 => (s_env (env' := [some (.val ((eL (eL (eV eI))) words_)), some (.bor ((eL (eT3 eI eI eI)) ties_)), some (.val ((eL (eL eI)) s3)), some (.val (eI x2.1)), some (.val ((eL (eV eI)) x2.2)), some (.own ((eL (eL eI)) s8)), some (.val ((eL eI) x5)), some (.val (eI x7)), none]) rfl (s_next (E := (fun (s : (List (List Int))) => [some (.val ((eL (eL (eV eI))) words_)), some (.bor ((eL (eT3 eI eI eI)) ties_)), some (.val ((eL (eL eI)) s3)), some (.val (eI x2.1)), some (.val ((eL (eV eI)) x2.2)), some (.own ((eL (eL eI)) s)), some (.val ((eL eI) x5)), some (.val (eI x7)), none])) (s_if (r_truE (c_call (a_cons (r_lc rfl (i_L (rfl : _ = M.ret ((eL (eT3 eI eI eI)) ties_))) (fun _ => rfl) (fun x9 => (et_ret rfl)) (fun x9 => (c_call (a_consP (d := (eL (eL (eV eI))) words_) (rfl : _ = M.ret ((eL (eL (eV eI))) words_)) (a_cons (b_PP (rfl : _ = M.ret ((eL eI) x5)) (p_lstE (e := eI) (xs := [x7]) (p_cons (rfl : _ = M.ret (eI x7)) p_nil) (p_len (n := 1) (by decide))) (r_cat _ _)) (fun v10 => (a_consP (d := (eT3 eI eI eI) x9) (rfl : _ = M.ret ((eT3 eI eI eI) x9)) (a_nil (rf_agrees _ _ _ _))))))))) (fun v11 => (a_nil (ev_ret (e := eB) (o_all _)))))) (fun v12 => rfl)) (s_env (env' := [some (.val ((eL (eL (eV eI))) words_)), some (.bor ((eL (eT3 eI eI eI)) ties_)), some (.val ((eL (eL eI)) s3)), some (.val (eI x2.1)), some (.val ((eL (eV eI)) x2.2)), some (.own ((eL (eL eI)) s8)), some (.val ((eL eI) x5)), some (.val (eI x7)), none]) rfl (s_appE (b_PP (rfl : _ = M.ret ((eL eI) x5)) (p_lstE (e := eI) (xs := [x7]) (p_cons (rfl : _ = M.ret (eI x7)) p_nil) (p_len (n := 1) (by decide))) (r_cat _ _)) rfl (fun more_v13 => (e_goN rfl)))) (e_goN rfl)) (fun s15 => (e_goX rfl))))) v16 s6))) (fun s17 => (e_goX rfl)))))) s3 more_v4)) (fun s19 => (s_frzO (d := (eL (eL eI)) s19) rfl (s_env (env' := [some (.val ((eL (eL (eV eI))) words_)), some (.bor ((eL (eT3 eI eI eI)) ties_)), some (.val ((eL (eL eI)) s3)), some (.val (eI x2.1)), some (.val ((eL (eV eI)) x2.2)), some (.val ((eL (eL eI)) s19)), none, none, none]) rfl (s_setP (rfl : _ = M.ret ((eL (eL eI)) s19)) (e_goX rfl)))))))))))) (enumT 0 words_) rows_v1)) (fun s21 => (s_env (env' := [some (.val ((eL (eL (eV eI))) words_)), some (.bor ((eL (eT3 eI eI eI)) ties_)), some (.val ((eL (eL eI)) s21)), none, none, none, none, none, none]) rfl (s_retP (r := ((s21.length : Nat) : Int)) (x := ((s21.length : Nat) : Int)) (fun _ => Or.inl rfl) (p_call (p_cons (rfl : _ = M.ret ((eL (eL eI)) s21)) p_nil) (o_lenL _)))))))))))
end K74

set_option Elab.async false
set_option linter.all false
set_option maxRecDepth 100000
set_option maxHeartbeats 0
namespace K74
open PySem PySem.Spec L2 DL
def t_made_one (k : Nat) (one_ : D) (other_ : D) : M D := f_made_one k [eD one_, eD other_]
theorem rf_made_one (k : Nat) (one_ : D) (other_ : D) : Ev eD (f_made_one k [eD one_, eD other_]) (t_made_one k one_ other_) := .of fun P q => M.wp_mono q fun a h => h a rfl
end K74

set_option Elab.async false
set_option linter.all false
set_option maxRecDepth 100000
set_option maxHeartbeats 0
namespace K74
open PySem PySem.Spec L2 DL
def t_made_one_fault (k : Nat) (one_ : D) (other_ : D) (told_ : D) : M D := f_made_one_fault k [eD one_, eD other_, eD told_]
theorem rf_made_one_fault (k : Nat) (one_ : D) (other_ : D) (told_ : D) : Ev eD (f_made_one_fault k [eD one_, eD other_, eD told_]) (t_made_one_fault k one_ other_ told_) := .of fun P q => M.wp_mono q fun a h => h a rfl
end K74

set_option Elab.async false
set_option linter.all false
set_option maxRecDepth 100000
set_option maxHeartbeats 0
namespace K74
open PySem PySem.Spec L2 DL
def t_more_general (k : Nat) (one_ : D) (other_ : D) : M D := f_more_general k [eD one_, eD other_]
theorem rf_more_general (k : Nat) (one_ : D) (other_ : D) : Ev eD (f_more_general k [eD one_, eD other_]) (t_more_general k one_ other_) := .of fun P q => M.wp_mono q fun a h => h a rfl
end K74

set_option Elab.async false
set_option linter.all false
set_option maxRecDepth 100000
set_option maxHeartbeats 0
namespace K74
open PySem PySem.Spec L2 DL
def t_law_structure (k : Nat) (form_ : (List Int)) (kept_ : (List Int)) : M D := f_law_structure k [(eV eI) form_, (eL eI) kept_]
theorem rf_law_structure (k : Nat) (form_ : (List Int)) (kept_ : (List Int)) : Ev eD (f_law_structure k [(eV eI) form_, (eL eI) kept_]) (t_law_structure k form_ kept_) := .of fun P q => M.wp_mono q fun a h => h a rfl
end K74

set_option Elab.async false
set_option linter.all false
set_option maxRecDepth 100000
set_option maxHeartbeats 0
namespace K74
open PySem PySem.Spec L2 DL
def t_law_r7 (k : Nat) (words_ : (List (List (List Int)))) (feature_ : Int) (ties_ : (List (Int × Int × Int))) (told_ : D) (good_ : (List (List Int))) : M Bool := (((((t_count_agreed words_ ties_)) >>= fun v91 => .ret (!decide (v91 = ((good_.length : Nat) : Int)))) >>= fun kb => if kb then .ret true else (((dIx told_ (eI (0 : Int))) >>= fun v93 => (asBM (dEq v93 (eS s_forms)))) >>= fun v95 => .ret (!(v95 == (decide ((0 : Int) < ((good_.length : Nat) : Int))))))) >>= fun kb => if kb then .ret false else (if (decide (((good_.length : Nat) : Int) = (0 : Int))) then .ret true else ((dIx told_ (eI (1 : Int))) >>= fun v98 => ((ixM good_ (0 : Int)) >>= fun v97 => .ret ((eL eI) v97)) >>= fun v99 => (asBM (dEq v98 v99)))))
theorem rf_law_r7 (k : Nat) (words_ : (List (List (List Int)))) (feature_ : Int) (ties_ : (List (Int × Int × Int))) (told_ : D) (good_ : (List (List Int))) : Rf (RFn eB) (law_r7 (k + 4) [none, some (.val (eD D.stt)), some (.val ((eL (eL (eV eI))) words_)), some (.val (eI feature_)), some (.val ((eL (eT3 eI eI eI)) ties_)), some (.val (eD told_)), some (.own ((eL (eL eI)) good_)), none, none, none, none, none, none, none, none, none]) (t_law_r7 k words_ feature_ ties_ told_ good_) :=
  (s_env (env' := [none, some (.val (eD D.stt)), some (.val ((eL (eL (eV eI))) words_)), some (.val (eI feature_)), some (.val ((eL (eT3 eI eI eI)) ties_)), some (.val (eD told_)), some (.own ((eL (eL eI)) good_)), none, none, none, none, none, none, none, none, none]) rfl (s_iff (r_or (t_E (b_EP (c_call (a_consP (d := (eL (eL (eV eI))) words_) (rfl : _ = M.ret ((eL (eL (eV eI))) words_)) (a_consP (d := (eL (eT3 eI eI eI)) ties_) (rfl : _ = M.ret ((eL (eT3 eI eI eI)) ties_)) (a_nil (rf_count_agreed _ _ _))))) (p_call (p_cons (rfl : _ = M.ret ((eL (eL eI)) good_)) p_nil) (o_lenL _)) (fun v91 => (ev_ret (e := eB) (o_neE cI (by decide) _ _))))) (t_E (b_EP (b_EP (b_PP (rfl : _ = M.ret (eD told_)) (rfl : _ = M.ret (eI (0 : Int))) (ev_id _)) (rfl : _ = M.ret (eS s_forms)) (fun v93 => (ev_asB _))) (p_bin (p_call (p_cons (rfl : _ = M.ret ((eL (eL eI)) good_)) p_nil) (o_lenL _)) (rfl : _ = M.ret (eI (0 : Int))) rfl) (fun v95 => (ev_ret (e := eB) rfl))))) (s_env (env' := [none, some (.val (eD D.stt)), some (.val ((eL (eL (eV eI))) words_)), some (.val (eI feature_)), some (.val ((eL (eT3 eI eI eI)) ties_)), some (.val (eD told_)), some (.own ((eL (eL eI)) good_)), none, none, none, none, none, none, none, none, none]) rfl (s_retP (r := false) (x := false) (fun _ => ⟨(fun z => nomatch z), Or.inl rfl⟩) (rfl : _ = M.ret (eB false)))) (s_skip (s_env (env' := [none, some (.val (eD D.stt)), some (.val ((eL (eL (eV eI))) words_)), some (.val (eI feature_)), some (.val ((eL (eT3 eI eI eI)) ties_)), some (.val (eD told_)), some (.own ((eL (eL eI)) good_)), none, none, none, none, none, none, none, none, none]) rfl (s_retF (fun _ _ => Or.inl rfl) (r_orVP (p_bin (p_call (p_cons (rfl : _ = M.ret ((eL (eL eI)) good_)) p_nil) (o_lenL _)) (rfl : _ = M.ret (eI (0 : Int))) (o_eqE cI (by decide) _ _)) (b_EE (b_PP (rfl : _ = M.ret (eD told_)) (rfl : _ = M.ret (eI (1 : Int))) (ev_id _)) (ev_toD (b_PP (rfl : _ = M.ret ((eL (eL eI)) good_)) (rfl : _ = M.ret (eI (0 : Int))) (r_ix _ _))) (fun v98 v99 => (ev_asB _)))))))))
end K74

set_option Elab.async false
set_option linter.all false
set_option maxRecDepth 100000
set_option maxHeartbeats 0
namespace K74
open PySem PySem.Spec L2 DL
def t_law_r6 (k : Nat) (words_ : (List (List (List Int)))) (feature_ : Int) (ties_ : (List (Int × Int × Int))) (told_ : D) (good_ : (List (List Int))) : M Bool := (((((ixM words_ (0 : Int)) >>= fun v17 => .ret ((v17.length : Nat) : Int)) >>= fun v18 => rgM 0 v18) >>= fun v89 => loopR (fun x19 s20 => (((((ixM words_ (1 : Int)) >>= fun v21 => .ret ((v21.length : Nat) : Int)) >>= fun v22 => rgM 0 v22) >>= fun v87 => loopR (fun x23 s24 => (((ixM words_ (0 : Int)) >>= fun v25 => (ixM v25 x19)) >>= fun v27 => (t_law_structure (k + 4) v27 [feature_])) >>= fun left_v31 => (((ixM words_ (1 : Int)) >>= fun v28 => (ixM v28 x23)) >>= fun v30 => (t_law_structure (k + 4) v30 [feature_])) >>= fun right_v32 => ((t_made_one (k + 4) left_v31 right_v32)) >>= fun answer_v33 => ((((t_made_one_fault (k + 4) left_v31 right_v32 answer_v33)) >>= fun v34 => .ret (!isNonD v34)) >>= fun kb => if kb then .ret (.back false) else ((((dIx answer_v33 (eI (0 : Int))) >>= fun v36 => (asBM (dEq v36 (eS s_one)))) >>= fun kb => if kb then appM s24 [x19, x23] >>= fun good_v38 => ((((dIx answer_v33 (eI (1 : Int))) >>= fun v39 => (asBM (dNe v39 left_v31))) >>= fun kb => if kb then .ret true else (((t_more_general (k + 4) left_v31 right_v32)) >>= fun v41 => (asBM (dNe v41 ((eL eI) [(0 : Int), (1 : Int)]))))) >>= fun kb => if kb then .ret (.back false) else .ret (.go good_v38)) else .ret (.go s24)) : M (Fw (List (List Int)) Bool)) >>= contR (fun s43 => ((((ixM words_ (0 : Int)) >>= fun v44 => (ixM v44 x19)) >>= fun v46 => (t_law_structure (k + 4) v46 [(0 : Int), (1 : Int)])) >>= fun v50 => (((ixM words_ (1 : Int)) >>= fun v47 => (ixM v47 x23)) >>= fun v49 => (t_law_structure (k + 4) v49 [(0 : Int), (1 : Int)])) >>= fun v51 => (t_made_one (k + 4) v50 v51)) >>= fun whole_v52 => ((((dIx whole_v52 (eI (0 : Int))) >>= fun v53 => (asBM (dEq v53 (eS s_one)))) >>= fun v61 => (((ixM words_ (0 : Int)) >>= fun v55 => (ixM v55 x19)) >>= fun v59 => ((ixM words_ (1 : Int)) >>= fun v57 => (ixM v57 x23)) >>= fun v60 => .ret (decide (v59 = v60))) >>= fun v62 => .ret (!(v61 == v62))) >>= fun kb => if kb then .ret (.back false) else ((((ixM words_ (0 : Int)) >>= fun v63 => (ixM v63 x19)) >>= fun v65 => (t_law_structure (k + 4) v65 [(0 : Int)])) >>= fun v69 => (((ixM words_ (1 : Int)) >>= fun v66 => (ixM v66 x23)) >>= fun v68 => (t_law_structure (k + 4) v68 [(1 : Int)])) >>= fun v70 => (t_made_one (k + 4) v69 v70)) >>= fun part_v71 => ((((dIx part_v71 (eI (0 : Int))) >>= fun v72 => (asBM (dNe v72 (eS s_one)))) >>= fun kb => if kb then .ret true else ((dIx part_v71 (eI (1 : Int))) >>= fun v85 => (((((ixM words_ (0 : Int)) >>= fun v74 => (ixM v74 x19)) >>= fun v76 => (ixM v76 (0 : Int))) >>= fun v82 => (((ixM words_ (1 : Int)) >>= fun v78 => (ixM v78 x23)) >>= fun v80 => (ixM v80 (1 : Int))) >>= fun v83 => .ret [v82, v83]) >>= fun v84 => (t_law_structure (k + 4) v84 [(0 : Int), (1 : Int)])) >>= fun v86 => (asBM (dNe v85 v86)))) >>= fun kb => if kb then .ret (.back false) else .ret (.go s43)))) (fun r => (Fw.back r)))) v87 s20) : M (Fw (List (List Int)) Bool)) >>= contR (fun s88 => .ret (.go s88)) (fun r => (Fw.back r))) v89 good_) : M (Fw (List (List Int)) Bool)) >>= contR (fun s90 => (t_law_r7 k (words_) (feature_) (ties_) (told_) (s90))) (fun r => r)
theorem rf_law_r6 (k : Nat) (words_ : (List (List (List Int)))) (feature_ : Int) (ties_ : (List (Int × Int × Int))) (told_ : D) (good_ : (List (List Int))) : Rf (RFn eB) (law_r6 (k + 4) [none, some (.val (eD D.stt)), some (.val ((eL (eL (eV eI))) words_)), some (.val (eI feature_)), some (.val ((eL (eT3 eI eI eI)) ties_)), some (.val (eD told_)), some (.own ((eL (eL eI)) good_)), none, none, none, none, none, none, none, none, none]) (t_law_r6 k words_ feature_ ties_ told_ good_) :=
  (s_forget (s_env (env' := [none, some (.val (eD D.stt)), some (.val ((eL (eL (eV eI))) words_)), some (.val (eI feature_)), some (.val ((eL (eT3 eI eI eI)) ties_)), some (.val (eD told_)), some (.own ((eL (eL eI)) good_)), none, none, none, none, none, none, none, none, none]) rfl (s_nextR (E := (fun (s : (List (List Int))) => [none, some (.val (eD D.stt)), some (.val ((eL (eL (eV eI))) words_)), some (.val (eI feature_)), some (.val ((eL (eT3 eI eI eI)) ties_)), some (.val (eD told_)), some (.own ((eL (eL eI)) s)), none, none, none, none, none, none, none, none, none])) (eρ := eB) (f := fun r => r) (fun _ _ => Or.inl rfl) (l_forE (e := eI) (i_rg1E (c_call (a_cons (b_PP (rfl : _ = M.ret ((eL (eL (eV eI))) words_)) (rfl : _ = M.ret (eI (0 : Int))) (r_ix _ _)) (fun v17 => (a_nil (ev_ret (e := eI) (o_lenL _))))))) (fun v89 => (rf_loopR (e := eI) (E := (fun (s : (List (List Int))) => [none, some (.val (eD D.stt)), some (.val ((eL (eL (eV eI))) words_)), some (.val (eI feature_)), some (.val ((eL (eT3 eI eI eI)) ties_)), some (.val (eD told_)), some (.own ((eL (eL eI)) s)), none, none, none, none, none, none, none, none, none])) (eρ := eB) (fun _ _ => rfl) (fun x19 s20 => (s_forget (s_env (env' := [none, some (.val (eD D.stt)), some (.val ((eL (eL (eV eI))) words_)), some (.val (eI feature_)), some (.val ((eL (eT3 eI eI eI)) ties_)), some (.val (eD told_)), some (.own ((eL (eL eI)) s20)), some (.val (eI x19)), none, none, none, none, none, none, none, none]) rfl (s_nextR (E := (fun (s : (List (List Int))) => [none, some (.val (eD D.stt)), some (.val ((eL (eL (eV eI))) words_)), some (.val (eI feature_)), some (.val ((eL (eT3 eI eI eI)) ties_)), some (.val (eD told_)), some (.own ((eL (eL eI)) s)), some (.val (eI x19)), none, none, none, none, none, none, none, none])) (eρ := eB) (f := fun r => (Fw.back r)) (fun _ _ => rfl) (l_forE (e := eI) (i_rg1E (c_call (a_cons (b_PP (rfl : _ = M.ret ((eL (eL (eV eI))) words_)) (rfl : _ = M.ret (eI (1 : Int))) (r_ix _ _)) (fun v21 => (a_nil (ev_ret (e := eI) (o_lenL _))))))) (fun v87 => (rf_loopR (e := eI) (E := (fun (s : (List (List Int))) => [none, some (.val (eD D.stt)), some (.val ((eL (eL (eV eI))) words_)), some (.val (eI feature_)), some (.val ((eL (eT3 eI eI eI)) ties_)), some (.val (eD told_)), some (.own ((eL (eL eI)) s)), some (.val (eI x19)), none, none, none, none, none, none, none, none])) (eρ := eB) (fun _ _ => rfl) (fun x23 s24 => (s_env (env' := [none, some (.val (eD D.stt)), some (.val ((eL (eL (eV eI))) words_)), some (.val (eI feature_)), some (.val ((eL (eT3 eI eI eI)) ties_)), some (.val (eD told_)), some (.own ((eL (eL eI)) s24)), some (.val (eI x19)), some (.val (eI x23)), none, none, none, none, none, none, none]) rfl (s_parK (a_cons (e := eD) (c_call (a_cons (b_EP (b_PP (rfl : _ = M.ret ((eL (eL (eV eI))) words_)) (rfl : _ = M.ret (eI (0 : Int))) (r_ix _ _)) (rfl : _ = M.ret (eI x19)) (fun v25 => (r_ix _ _))) (fun v27 => (a_consP (d := (eL eI) [feature_]) (p_lstE (e := eI) (xs := [feature_]) (p_cons (rfl : _ = M.ret (eI feature_)) p_nil) (p_len (n := 1) (by decide))) (a_nil (rf_law_structure _ _ _)))))) (fun left_v31 => (a_cons (e := eD) (c_call (a_cons (b_EP (b_PP (rfl : _ = M.ret ((eL (eL (eV eI))) words_)) (rfl : _ = M.ret (eI (1 : Int))) (r_ix _ _)) (rfl : _ = M.ret (eI x23)) (fun v28 => (r_ix _ _))) (fun v30 => (a_consP (d := (eL eI) [feature_]) (p_lstE (e := eI) (xs := [feature_]) (p_cons (rfl : _ = M.ret (eI feature_)) p_nil) (p_len (n := 1) (by decide))) (a_nil (rf_law_structure _ _ _)))))) (fun right_v32 => (a_nil (k_par (s_env (env' := [none, some (.val (eD D.stt)), some (.val ((eL (eL (eV eI))) words_)), some (.val (eI feature_)), some (.val ((eL (eT3 eI eI eI)) ties_)), some (.val (eD told_)), some (.own ((eL (eL eI)) s24)), some (.val (eI x19)), some (.val (eI x23)), none, none, none, none, none, some (.val (eD left_v31)), some (.val (eD right_v32))]) rfl (s_setE (e := eD) (c_call (a_consP (d := eD left_v31) (rfl : _ = M.ret (eD left_v31)) (a_consP (d := eD right_v32) (rfl : _ = M.ret (eD right_v32)) (a_nil (rf_made_one _ _ _))))) (fun answer_v33 => (s_env (env' := [none, some (.val (eD D.stt)), some (.val ((eL (eL (eV eI))) words_)), some (.val (eI feature_)), some (.val ((eL (eT3 eI eI eI)) ties_)), some (.val (eD told_)), some (.own ((eL (eL eI)) s24)), some (.val (eI x19)), some (.val (eI x23)), none, some (.val (eD answer_v33)), none, none, none, some (.val (eD left_v31)), some (.val (eD right_v32))]) rfl (s_iff (t_E (b_EP (c_call (a_consP (d := eD left_v31) (rfl : _ = M.ret (eD left_v31)) (a_consP (d := eD right_v32) (rfl : _ = M.ret (eD right_v32)) (a_consP (d := eD answer_v33) (rfl : _ = M.ret (eD answer_v33)) (a_nil (rf_made_one_fault _ _ _ _)))))) (rfl : _ = M.ret (eN ())) (fun v34 => (ev_ret (e := eB) (o_isNotD _))))) (s_env (env' := [none, some (.val (eD D.stt)), some (.val ((eL (eL (eV eI))) words_)), some (.val (eI feature_)), some (.val ((eL (eT3 eI eI eI)) ties_)), some (.val (eD told_)), some (.own ((eL (eL eI)) s24)), some (.val (eI x19)), some (.val (eI x23)), none, some (.val (eD answer_v33)), none, none, none, some (.val (eD left_v31)), some (.val (eD right_v32))]) rfl (s_retP (r := false) (x := Fw.back false) (fun _ => ⟨(fun z => nomatch z), rfl⟩) (rfl : _ = M.ret (eB false)))) (s_skip (s_env (env' := [none, some (.val (eD D.stt)), some (.val ((eL (eL (eV eI))) words_)), some (.val (eI feature_)), some (.val ((eL (eT3 eI eI eI)) ties_)), some (.val (eD told_)), some (.own ((eL (eL eI)) s24)), some (.val (eI x19)), some (.val (eI x23)), none, some (.val (eD answer_v33)), none, none, none, some (.val (eD left_v31)), some (.val (eD right_v32))]) rfl (s_nextR (E := (fun (s : (List (List Int))) => [none, some (.val (eD D.stt)), some (.val ((eL (eL (eV eI))) words_)), some (.val (eI feature_)), some (.val ((eL (eT3 eI eI eI)) ties_)), some (.val (eD told_)), some (.own ((eL (eL eI)) s)), some (.val (eI x19)), some (.val (eI x23)), none, some (.val (eD answer_v33)), none, none, none, some (.val (eD left_v31)), some (.val (eD right_v32))])) (eρ := eB) (f := fun r => (Fw.back r)) (fun _ _ => rfl) (s_if (t_E (b_EP (b_PP (rfl : _ = M.ret (eD answer_v33)) (rfl : _ = M.ret (eI (0 : Int))) (ev_id _)) (rfl : _ = M.ret (eS s_one)) (fun v36 => (ev_asB _)))) (s_env (env' := [none, some (.val (eD D.stt)), some (.val ((eL (eL (eV eI))) words_)), some (.val (eI feature_)), some (.val ((eL (eT3 eI eI eI)) ties_)), some (.val (eD told_)), some (.own ((eL (eL eI)) s24)), some (.val (eI x19)), some (.val (eI x23)), none, some (.val (eD answer_v33)), none, none, none, some (.val (eD left_v31)), some (.val (eD right_v32))]) rfl (s_appP (e := (eL eI)) (xs := s24) (x := [x19, x23]) (p_lstE (e := eI) (xs := [x19, x23]) (p_cons (rfl : _ = M.ret (eI x19)) (p_cons (rfl : _ = M.ret (eI x23)) p_nil)) (p_len (n := 2) (by decide))) rfl (fun good_v38 => (s_env (env' := [none, some (.val (eD D.stt)), some (.val ((eL (eL (eV eI))) words_)), some (.val (eI feature_)), some (.val ((eL (eT3 eI eI eI)) ties_)), some (.val (eD told_)), some (.own ((eL (eL eI)) good_v38)), some (.val (eI x19)), some (.val (eI x23)), none, some (.val (eD answer_v33)), none, none, none, some (.val (eD left_v31)), some (.val (eD right_v32))]) rfl (s_iff (r_or (t_E (b_EP (b_PP (rfl : _ = M.ret (eD answer_v33)) (rfl : _ = M.ret (eI (1 : Int))) (ev_id _)) (rfl : _ = M.ret (eD left_v31)) (fun v39 => (ev_asB _)))) (t_E (b_EP (c_call (a_consP (d := eD left_v31) (rfl : _ = M.ret (eD left_v31)) (a_consP (d := eD right_v32) (rfl : _ = M.ret (eD right_v32)) (a_nil (rf_more_general _ _ _))))) (p_lstE (e := eI) (xs := [(0 : Int), (1 : Int)]) (p_cons (rfl : _ = M.ret (eI (0 : Int))) (p_cons (rfl : _ = M.ret (eI (1 : Int))) p_nil)) (p_len (n := 2) (by decide))) (fun v41 => (ev_asB _))))) (s_env (env' := [none, some (.val (eD D.stt)), some (.val ((eL (eL (eV eI))) words_)), some (.val (eI feature_)), some (.val ((eL (eT3 eI eI eI)) ties_)), some (.val (eD told_)), some (.own ((eL (eL eI)) good_v38)), some (.val (eI x19)), some (.val (eI x23)), none, some (.val (eD answer_v33)), none, none, none, some (.val (eD left_v31)), some (.val (eD right_v32))]) rfl (s_retP (r := false) (x := Fw.back false) (fun _ => ⟨(fun z => nomatch z), rfl⟩) (rfl : _ = M.ret (eB false)))) (s_skip (e_goL rfl))))))) (e_goL rfl)) (fun s43 => (s_env (env' := [none, some (.val (eD D.stt)), some (.val ((eL (eL (eV eI))) words_)), some (.val (eI feature_)), some (.val ((eL (eT3 eI eI eI)) ties_)), some (.val (eD told_)), some (.own ((eL (eL eI)) s43)), some (.val (eI x19)), some (.val (eI x23)), none, some (.val (eD answer_v33)), none, none, none, some (.val (eD left_v31)), some (.val (eD right_v32))]) rfl (s_setE (e := eD) (c_call (a_cons (c_call (a_cons (b_EP (b_PP (rfl : _ = M.ret ((eL (eL (eV eI))) words_)) (rfl : _ = M.ret (eI (0 : Int))) (r_ix _ _)) (rfl : _ = M.ret (eI x19)) (fun v44 => (r_ix _ _))) (fun v46 => (a_consP (d := (eL eI) [(0 : Int), (1 : Int)]) (p_lstE (e := eI) (xs := [(0 : Int), (1 : Int)]) (p_cons (rfl : _ = M.ret (eI (0 : Int))) (p_cons (rfl : _ = M.ret (eI (1 : Int))) p_nil)) (p_len (n := 2) (by decide))) (a_nil (rf_law_structure _ _ _)))))) (fun v50 => (a_cons (c_call (a_cons (b_EP (b_PP (rfl : _ = M.ret ((eL (eL (eV eI))) words_)) (rfl : _ = M.ret (eI (1 : Int))) (r_ix _ _)) (rfl : _ = M.ret (eI x23)) (fun v47 => (r_ix _ _))) (fun v49 => (a_consP (d := (eL eI) [(0 : Int), (1 : Int)]) (p_lstE (e := eI) (xs := [(0 : Int), (1 : Int)]) (p_cons (rfl : _ = M.ret (eI (0 : Int))) (p_cons (rfl : _ = M.ret (eI (1 : Int))) p_nil)) (p_len (n := 2) (by decide))) (a_nil (rf_law_structure _ _ _)))))) (fun v51 => (a_nil (rf_made_one _ _ _))))))) (fun whole_v52 => (s_env (env' := [none, some (.val (eD D.stt)), some (.val ((eL (eL (eV eI))) words_)), some (.val (eI feature_)), some (.val ((eL (eT3 eI eI eI)) ties_)), some (.val (eD told_)), some (.own ((eL (eL eI)) s43)), some (.val (eI x19)), some (.val (eI x23)), none, some (.val (eD answer_v33)), some (.val (eD whole_v52)), none, none, some (.val (eD left_v31)), some (.val (eD right_v32))]) rfl (s_iff (t_E (b_EE (b_EP (b_PP (rfl : _ = M.ret (eD whole_v52)) (rfl : _ = M.ret (eI (0 : Int))) (ev_id _)) (rfl : _ = M.ret (eS s_one)) (fun v53 => (ev_asB _))) (b_EE (b_EP (b_PP (rfl : _ = M.ret ((eL (eL (eV eI))) words_)) (rfl : _ = M.ret (eI (0 : Int))) (r_ix _ _)) (rfl : _ = M.ret (eI x19)) (fun v55 => (r_ix _ _))) (b_EP (b_PP (rfl : _ = M.ret ((eL (eL (eV eI))) words_)) (rfl : _ = M.ret (eI (1 : Int))) (r_ix _ _)) (rfl : _ = M.ret (eI x23)) (fun v57 => (r_ix _ _))) (fun v59 v60 => (ev_ret (e := eB) (o_eqE (cV cI) (by decide) _ _)))) (fun v61 v62 => (ev_ret (e := eB) rfl)))) (s_env (env' := [none, some (.val (eD D.stt)), some (.val ((eL (eL (eV eI))) words_)), some (.val (eI feature_)), some (.val ((eL (eT3 eI eI eI)) ties_)), some (.val (eD told_)), some (.own ((eL (eL eI)) s43)), some (.val (eI x19)), some (.val (eI x23)), none, some (.val (eD answer_v33)), some (.val (eD whole_v52)), none, none, some (.val (eD left_v31)), some (.val (eD right_v32))]) rfl (s_retP (r := false) (x := Fw.back false) (fun _ => ⟨(fun z => nomatch z), rfl⟩) (rfl : _ = M.ret (eB false)))) (s_skip (s_env (env' := [none, some (.val (eD D.stt)), some (.val ((eL (eL (eV eI))) words_)), some (.val (eI feature_)), some (.val ((eL (eT3 eI eI eI)) ties_)), some (.val (eD told_)), some (.own ((eL (eL eI)) s43)), some (.val (eI x19)), some (.val (eI x23)), none, some (.val (eD answer_v33)), some (.val (eD whole_v52)), none, none, some (.val (eD left_v31)), some (.val (eD right_v32))]) rfl (s_setE (e := eD) (c_call (a_cons (c_call (a_cons (b_EP (b_PP (rfl : _ = M.ret ((eL (eL (eV eI))) words_)) (rfl : _ = M.ret (eI (0 : Int))) (r_ix _ _)) (rfl : _ = M.ret (eI x19)) (fun v63 => (r_ix _ _))) (fun v65 => (a_consP (d := (eL eI) [(0 : Int)]) (p_lstE (e := eI) (xs := [(0 : Int)]) (p_cons (rfl : _ = M.ret (eI (0 : Int))) p_nil) (p_len (n := 1) (by decide))) (a_nil (rf_law_structure _ _ _)))))) (fun v69 => (a_cons (c_call (a_cons (b_EP (b_PP (rfl : _ = M.ret ((eL (eL (eV eI))) words_)) (rfl : _ = M.ret (eI (1 : Int))) (r_ix _ _)) (rfl : _ = M.ret (eI x23)) (fun v66 => (r_ix _ _))) (fun v68 => (a_consP (d := (eL eI) [(1 : Int)]) (p_lstE (e := eI) (xs := [(1 : Int)]) (p_cons (rfl : _ = M.ret (eI (1 : Int))) p_nil) (p_len (n := 1) (by decide))) (a_nil (rf_law_structure _ _ _)))))) (fun v70 => (a_nil (rf_made_one _ _ _))))))) (fun part_v71 => (s_env (env' := [none, some (.val (eD D.stt)), some (.val ((eL (eL (eV eI))) words_)), some (.val (eI feature_)), some (.val ((eL (eT3 eI eI eI)) ties_)), some (.val (eD told_)), some (.own ((eL (eL eI)) s43)), some (.val (eI x19)), some (.val (eI x23)), none, some (.val (eD answer_v33)), some (.val (eD whole_v52)), some (.val (eD part_v71)), none, some (.val (eD left_v31)), some (.val (eD right_v32))]) rfl (s_iff (r_or (t_E (b_EP (b_PP (rfl : _ = M.ret (eD part_v71)) (rfl : _ = M.ret (eI (0 : Int))) (ev_id _)) (rfl : _ = M.ret (eS s_one)) (fun v72 => (ev_asB _)))) (t_E (b_EE (b_PP (rfl : _ = M.ret (eD part_v71)) (rfl : _ = M.ret (eI (1 : Int))) (ev_id _)) (c_call (a_cons (r_tup (a_cons (b_EP (b_EP (b_PP (rfl : _ = M.ret ((eL (eL (eV eI))) words_)) (rfl : _ = M.ret (eI (0 : Int))) (r_ix _ _)) (rfl : _ = M.ret (eI x19)) (fun v74 => (r_ix _ _))) (rfl : _ = M.ret (eI (0 : Int))) (fun v76 => (r_ixV _ _))) (fun v82 => (a_cons (b_EP (b_EP (b_PP (rfl : _ = M.ret ((eL (eL (eV eI))) words_)) (rfl : _ = M.ret (eI (1 : Int))) (r_ix _ _)) (rfl : _ = M.ret (eI x23)) (fun v78 => (r_ix _ _))) (rfl : _ = M.ret (eI (1 : Int))) (fun v80 => (r_ixV _ _))) (fun v83 => (a_nil (k_disp (R := Re (eV eI)) (r := ([v82, v83] : (List Int))) (p_len (n := 2) (by decide)) rfl))))))) (fun v84 => (a_consP (d := (eL eI) [(0 : Int), (1 : Int)]) (p_lstE (e := eI) (xs := [(0 : Int), (1 : Int)]) (p_cons (rfl : _ = M.ret (eI (0 : Int))) (p_cons (rfl : _ = M.ret (eI (1 : Int))) p_nil)) (p_len (n := 2) (by decide))) (a_nil (rf_law_structure _ _ _)))))) (fun v85 v86 => (ev_asB _))))) (s_env (env' := [none, some (.val (eD D.stt)), some (.val ((eL (eL (eV eI))) words_)), some (.val (eI feature_)), some (.val ((eL (eT3 eI eI eI)) ties_)), some (.val (eD told_)), some (.own ((eL (eL eI)) s43)), some (.val (eI x19)), some (.val (eI x23)), none, some (.val (eD answer_v33)), some (.val (eD whole_v52)), some (.val (eD part_v71)), none, some (.val (eD left_v31)), some (.val (eD right_v32))]) rfl (s_retP (r := false) (x := Fw.back false) (fun _ => ⟨(fun z => nomatch z), rfl⟩) (rfl : _ = M.ret (eB false)))) (s_skip (e_goT rfl))))))))))))))))))))))))))))))) v87 s20))) (fun s88 => (e_goT rfl)))))) v89 good_))) (fun s90 => (rf_law_r7 k _ _ _ _ _)))))
end K74

set_option Elab.async false
set_option linter.all false
set_option maxRecDepth 100000
set_option maxHeartbeats 0
namespace K74
open PySem PySem.Spec L2 DL
def t_law_r5 (k : Nat) (words_ : (List (List (List Int)))) (feature_ : Int) (ties_ : (List (Int × Int × Int))) (told_ : D) : M Bool := (M.ret ([] : (List (List Int)))) >>= fun good_v16 => (t_law_r6 k (words_) (feature_) (ties_) (told_) (good_v16))
theorem rf_law_r5 (k : Nat) (words_ : (List (List (List Int)))) (feature_ : Int) (ties_ : (List (Int × Int × Int))) (told_ : D) : Rf (RFn eB) (law_r5 (k + 4) [none, some (.val (eD D.stt)), some (.val ((eL (eL (eV eI))) words_)), some (.val (eI feature_)), some (.val ((eL (eT3 eI eI eI)) ties_)), some (.val (eD told_)), none, none, none, none, none, none, none, none, none, none]) (t_law_r5 k words_ feature_ ties_ told_) :=
  (s_env (env' := [none, some (.val (eD D.stt)), some (.val ((eL (eL (eV eI))) words_)), some (.val (eI feature_)), some (.val ((eL (eT3 eI eI eI)) ties_)), some (.val (eD told_)), none, none, none, none, none, none, none, none, none, none]) rfl (s_setOE (e := (eL (eL eI))) (ev_ret (e := (eL (eL eI))) (p_lstE (e := (eL eI)) (xs := ([] : List (List Int))) p_nil (p_len (n := 0) (by decide)))) (fun good_v16 => (rf_law_r6 k _ _ _ _ _))))
end K74

set_option Elab.async false
set_option linter.all false
set_option maxRecDepth 100000
set_option maxHeartbeats 0
namespace K74
open PySem PySem.Spec L2 DL
def t_law_r4 (k : Nat) (words_ : (List (List (List Int)))) (feature_ : Int) (ties_ : (List (Int × Int × Int))) (told_ : D) : M Bool := ((((t_agreed_fault words_ ties_ told_)) >>= fun v14 => .ret (!isNonD v14)) >>= fun kb => if kb then .ret false else (t_law_r5 k (words_) (feature_) (ties_) (told_)))
theorem rf_law_r4 (k : Nat) (words_ : (List (List (List Int)))) (feature_ : Int) (ties_ : (List (Int × Int × Int))) (told_ : D) : Rf (RFn eB) (law_r4 (k + 4) [none, some (.val (eD D.stt)), some (.val ((eL (eL (eV eI))) words_)), some (.val (eI feature_)), some (.val ((eL (eT3 eI eI eI)) ties_)), some (.val (eD told_)), none, none, none, none, none, none, none, none, none, none]) (t_law_r4 k words_ feature_ ties_ told_) :=
  (s_env (env' := [none, some (.val (eD D.stt)), some (.val ((eL (eL (eV eI))) words_)), some (.val (eI feature_)), some (.val ((eL (eT3 eI eI eI)) ties_)), some (.val (eD told_)), none, none, none, none, none, none, none, none, none, none]) rfl (s_iff (t_E (b_EP (c_call (a_consP (d := (eL (eL (eV eI))) words_) (rfl : _ = M.ret ((eL (eL (eV eI))) words_)) (a_consP (d := (eL (eT3 eI eI eI)) ties_) (rfl : _ = M.ret ((eL (eT3 eI eI eI)) ties_)) (a_consP (d := eD told_) (rfl : _ = M.ret (eD told_)) (a_nil (rf_agreed_fault _ _ _ _)))))) (rfl : _ = M.ret (eN ())) (fun v14 => (ev_ret (e := eB) (o_isNotD _))))) (s_env (env' := [none, some (.val (eD D.stt)), some (.val ((eL (eL (eV eI))) words_)), some (.val (eI feature_)), some (.val ((eL (eT3 eI eI eI)) ties_)), some (.val (eD told_)), none, none, none, none, none, none, none, none, none, none]) rfl (s_retP (r := false) (x := false) (fun _ => ⟨(fun z => nomatch z), Or.inl rfl⟩) (rfl : _ = M.ret (eB false)))) (s_skip (rf_law_r5 k _ _ _ _))))
end K74

set_option Elab.async false
set_option linter.all false
set_option maxRecDepth 100000
set_option maxHeartbeats 0
namespace K74
open PySem PySem.Spec L2 DL
def t_law_r3 (k : Nat) (words_ : (List (List (List Int)))) (feature_ : Int) (ties_ : (List (Int × Int × Int))) : M Bool := ((t_agreed words_ ties_)) >>= fun told_v13 => (t_law_r4 k (words_) (feature_) (ties_) (told_v13))
theorem rf_law_r3 (k : Nat) (words_ : (List (List (List Int)))) (feature_ : Int) (ties_ : (List (Int × Int × Int))) : Rf (RFn eB) (law_r3 (k + 4) [none, some (.val (eD D.stt)), some (.val ((eL (eL (eV eI))) words_)), some (.val (eI feature_)), some (.val ((eL (eT3 eI eI eI)) ties_)), none, none, none, none, none, none, none, none, none, none, none]) (t_law_r3 k words_ feature_ ties_) :=
  (s_env (env' := [none, some (.val (eD D.stt)), some (.val ((eL (eL (eV eI))) words_)), some (.val (eI feature_)), some (.val ((eL (eT3 eI eI eI)) ties_)), none, none, none, none, none, none, none, none, none, none, none]) rfl (s_setE (e := eD) (c_call (a_consP (d := (eL (eL (eV eI))) words_) (rfl : _ = M.ret ((eL (eL (eV eI))) words_)) (a_consP (d := (eL (eT3 eI eI eI)) ties_) (rfl : _ = M.ret ((eL (eT3 eI eI eI)) ties_)) (a_nil (rf_agreed _ _ _))))) (fun told_v13 => (rf_law_r4 k _ _ _ _))))
end K74

set_option Elab.async false
set_option linter.all false
set_option maxRecDepth 100000
set_option maxHeartbeats 0
namespace K74
open PySem PySem.Spec L2 DL
def t_law_r2 (k : Nat) (words_ : (List (List (List Int)))) (feature_ : Int) : M Bool := (M.ret [((0 : Int), (1 : Int), feature_)]) >>= fun ties_v12 => (t_law_r3 k (words_) (feature_) (ties_v12))
theorem rf_law_r2 (k : Nat) (words_ : (List (List (List Int)))) (feature_ : Int) : Rf (RFn eB) (law_r2 (k + 4) [none, some (.val (eD D.stt)), some (.val ((eL (eL (eV eI))) words_)), some (.val (eI feature_)), none, none, none, none, none, none, none, none, none, none, none, none]) (t_law_r2 k words_ feature_) :=
  (s_env (env' := [none, some (.val (eD D.stt)), some (.val ((eL (eL (eV eI))) words_)), some (.val (eI feature_)), none, none, none, none, none, none, none, none, none, none, none, none]) rfl (s_setE (e := (eL (eT3 eI eI eI))) (ev_ret (e := (eL (eT3 eI eI eI))) (p_lstE (e := (eT3 eI eI eI)) (xs := [((0 : Int), (1 : Int), feature_)]) (p_cons (p_tup (ds := [eI (0 : Int), eI (1 : Int), eI feature_]) (p_cons (rfl : _ = M.ret (eI (0 : Int))) (p_cons (rfl : _ = M.ret (eI (1 : Int))) (p_cons (rfl : _ = M.ret (eI feature_)) p_nil))) (p_len (n := 3) (by decide))) p_nil) (p_len (n := 1) (by decide)))) (fun ties_v12 => (rf_law_r3 k _ _ _))))
end K74

set_option Elab.async false
set_option linter.all false
set_option maxRecDepth 100000
set_option maxHeartbeats 0
namespace K74
open PySem PySem.Spec L2 DL
def t_law_r1 (k : Nat) (words_ : (List (List (List Int)))) : M Bool := ((askM (2 : Int))) >>= fun feature_v11 => (t_law_r2 k (words_) (feature_v11))
theorem rf_law_r1 (k : Nat) (words_ : (List (List (List Int)))) : Rf (RFn eB) (law_r1 (k + 4) [none, some (.val (eD D.stt)), some (.val ((eL (eL (eV eI))) words_)), none, none, none, none, none, none, none, none, none, none, none, none, none]) (t_law_r1 k words_) :=
  (s_env (env' := [none, some (.val (eD D.stt)), some (.val ((eL (eL (eV eI))) words_)), none, none, none, none, none, none, none, none, none, none, none, none, none]) rfl (s_setE (e := eI) (c_call (a_consP (d := eD D.stt) (rfl : _ = M.ret (eD D.stt)) (a_consP (d := eI (2 : Int)) (rfl : _ = M.ret (eI (2 : Int))) (a_nil (r_take _))))) (fun feature_v11 => (rf_law_r2 k _ _))))
end K74

set_option Elab.async false
set_option linter.all false
set_option maxRecDepth 100000
set_option maxHeartbeats 0
namespace K74
open PySem PySem.Spec L2 DL
def t_law (k : Nat) : M Bool := ((rgM 0 (2 : Int)) >>= fun v9 => (lcM (fun x1 => (M.ret true)) (fun x1 => (((((askM (4 : Int))) >>= fun v3 => .ret ((1 : Int) + v3)) >>= fun v4 => rgM 0 v4) >>= fun v8 => (lcM (fun x5 => (M.ret true)) (fun x5 => (((askM (3 : Int))) >>= fun v6 => ((askM (3 : Int))) >>= fun v7 => .ret [v6, v7]))) v8))) v9) >>= fun words_v10 => (t_law_r1 k (words_v10))
theorem rf_law (k : Nat) : Rf (RFn eB) (b_law (k + 4) (none :: some (.val .stt) :: List.replicate 14 none)) (t_law k) :=
  (s_env (env' := [none, some (.val (eD D.stt)), none, none, none, none, none, none, none, none, none, none, none, none, none, none]) rfl (s_setE (e := (eL (eL (eV eI)))) (r_lcE rfl (i_rg1 (rfl : _ = M.ret (eI (2 : Int)))) (fun _ => rfl) (fun x1 => (et_ret rfl)) (fun x1 => (r_lcE rfl (i_rg1E (b_PE (rfl : _ = M.ret (eI (1 : Int))) (c_call (a_consP (d := eD D.stt) (rfl : _ = M.ret (eD D.stt)) (a_consP (d := eI (4 : Int)) (rfl : _ = M.ret (eI (4 : Int))) (a_nil (r_take _))))) (fun v3 => (ev_ret (e := eI) rfl)))) (fun _ => rfl) (fun x5 => (et_ret rfl)) (fun x5 => (r_tup (a_cons (c_call (a_consP (d := eD D.stt) (rfl : _ = M.ret (eD D.stt)) (a_consP (d := eI (3 : Int)) (rfl : _ = M.ret (eI (3 : Int))) (a_nil (r_take _))))) (fun v6 => (a_cons (c_call (a_consP (d := eD D.stt) (rfl : _ = M.ret (eD D.stt)) (a_consP (d := eI (3 : Int)) (rfl : _ = M.ret (eI (3 : Int))) (a_nil (r_take _))))) (fun v7 => (a_nil (k_disp (R := Re (eV eI)) (r := ([v6, v7] : (List Int))) (p_len (n := 2) (by decide)) rfl))))))))))) (fun words_v10 => (rf_law_r1 k _))))
end K74

set_option Elab.async false
set_option linter.all false
set_option maxRecDepth 100000
set_option maxHeartbeats 2000000
namespace K74
open PySem PySem.Spec L2 DL
abbrev T3 := Int × Int × Int
abbrev Wd := List (List (List Int))
def lf (l : List (List Int)) (w : Int) : List Int := l.getD w.toNat []
def wf (words : Wd) (w : Int) : List (List Int) := words.getD w.toNat []
def fm (words : Wd) (w f : Int) : List Int := (wf words w).getD f.toNat []
def gv (words : Wd) (w f t : Int) : Int := (fm words w f).getD t.toNat 0
def tieAt (ties : List T3) (i : Int) : T3 := ties.getD i.toNat (0, 0, 0)
structure Wf (words : Wd) (ties : List T3) : Prop where
  n1 : words.length ≤ 4
  lens : ∀ x ∈ words, x.length ≤ 4
  two : ∀ x ∈ words, ∀ f ∈ x, f.length = 2
  tie : ∀ t ∈ ties, 0 ≤ t.1 ∧ t.1 < words.length ∧ 0 ≤ t.2.1 ∧ t.2.1 < words.length ∧ t.1 ≠ t.2.1 ∧ 0 ≤ t.2.2 ∧ t.2.2 < 2
  tl : ties.length ≤ 4
  uniq : ∀ s ∈ ties, ∀ t ∈ ties, max s.1 s.2.1 = max t.1 t.2.1 → s = t
section
variable {words : Wd} {ties : List T3} {left : List (List Int)} {w f : Int} {t : T3}
/-- a word of which there is one -/
def InW (words : Wd) (w : Int) : Prop := 0 ≤ w ∧ w < words.length
def InF (words : Wd) (w f : Int) : Prop := 0 ≤ f ∧ f < (wf words w).length
theorem ixW (hw : InW words w) : ixM words w = .ret (wf words w) := ixM_ret [] hw.1 hw.2
theorem ixF (hf : InF words w f) : ixM (wf words w) f = .ret (fm words w f) := ixM_ret [] hf.1 hf.2
theorem wf_mem (hw : InW words w) : wf words w ∈ words := getD_mem [] (by have := hw.1; have := hw.2; omega)
theorem fm_mem (hf : InF words w f) : fm words w f ∈ wf words w := getD_mem [] (by have := hf.1; have := hf.2; omega)
theorem Wf.ixT (h : Wf words ties) (hw : InW words w) (hf : InF words w f) {k : Int} (h0 : 0 ≤ k) (h2 : k < 2) : ixM (fm words w f) k = .ret (gv words w f k) := ixM_ret 0 h0 (by
  rw [h.two _ (wf_mem hw) _ (fm_mem hf)]; exact h2)
theorem Wf.tw (h : Wf words ties) (ht : t ∈ ties) (hw : w = t.1 ∨ w = t.2.1) : InW words w := by
  obtain ⟨a, b, c, d, _⟩ := h.tie t ht
  rcases hw with rfl | rfl
  · exact ⟨a, b⟩
  · exact ⟨c, d⟩
/-- what is left is of the forms -/
def LB (words : Wd) (left : List (List Int)) : Prop := left.length = words.length ∧ ∀ w, InW words w → ∀ f ∈ lf left w, InF words w f
theorem LB.ix (h : LB words left) (hw : InW words w) : ixM left w = .ret (lf left w) := ixM_ret [] hw.1 (by rw [h.1]; exact hw.2)
def far (w : Int) (t : T3) : Int := if decide (w = t.1) then t.2.1 else t.1
theorem Wf.fw (h : Wf words ties) (ht : t ∈ ties) : InW words (far w t) := by
  obtain ⟨a, b, c, d, _⟩ := h.tie t ht
  unfold far
  split
  · exact ⟨c, d⟩
  · exact ⟨a, b⟩
def pt (words : Wd) (left : List (List Int)) (w f : Int) (t : T3) : List Int := (lf left (far w t)).filter fun a => decide (gv words (far w t) a t.2.2 = gv words w f t.2.2)
theorem t_partners_ret (h : Wf words ties) (hl : LB words left) (ht : t ∈ ties) (hw : w = t.1 ∨ w = t.2.1) (hf : InF words w f) : t_partners words left w f t = .ret (pt words left w f t) := by
  obtain ⟨a, b, c, d, e, k0, k2⟩ := h.tie t ht
  unfold t_partners
  rw [M.bind_ret, M.bind_ret]
  show (ixM left (far w t) >>= _) = _
  rw [hl.ix (h.fw ht), M.bind_ret]
  refine lcM_fil fun x hx => ?_
  have hi := hl.2 _ (h.fw ht) x hx
  have hw := h.tw ht hw
  show ((ixM words (far w t) >>= _) >>= _) >>= _ = _
  rw [ixW (h.fw ht), M.bind_ret, ixF hi, M.bind_ret, h.ixT (h.fw ht) hi k0 k2, M.bind_ret, ixW hw, M.bind_ret, ixF hf, M.bind_ret, h.ixT hw hf k0 k2, M.bind_ret]
def full (words : Wd) : List (List Int) := words.map fun x => (List.range x.length).map fun i : Nat => (i : Int)
theorem lf_full (hw : InW words w) : lf (full words) w = (List.range (wf words w).length).map fun i : Nat => (i : Int) := by
  have h : w.toNat < words.length := by have := hw.1; have := hw.2; omega
  unfold lf full wf
  rw [List.getD_eq_getElem?_getD, List.getElem?_map, List.getD_eq_getElem?_getD, List.getElem?_eq_getElem h]
  rfl
theorem full_LB (words : Wd) : LB words (full words) := ⟨by simp [full], fun w hw f hf => by
  rw [lf_full hw] at hf
  obtain ⟨i, hi, rfl⟩ := List.mem_map.mp hf
  have := List.mem_range.mp hi
  exact ⟨by omega, by omega⟩⟩
theorem full_ret (h : Wf words ties) : lcM (fun _ => M.ret true) (fun x1 : List (List Int) => rgM 0 ((x1.length : Nat) : Int)) words = .ret (full words) := by
  unfold full
  refine lcM_all fun x hx => ?_
  have := h.lens x hx
  exact rgM_nat (by omega)
/-- a form left out -/
def cut (s : List (List Int)) (w f : Int) : List (List Int) := s.set w.toNat ((lf s w).filter fun a => !decide (a = f))
theorem lf_cut (s : List (List Int)) {w : Int} (f : Int) (v : Int) (h0 : 0 ≤ w) (h1 : w < s.length) (v0 : 0 ≤ v) : lf (cut s w f) v = if v = w then (lf s w).filter fun a => !decide (a = f) else lf s v := by
  unfold cut
  unfold lf
  rw [List.getD_eq_getElem?_getD, List.getElem?_set]
  by_cases e : v = w
  · subst e
    rw [if_pos rfl, if_pos (by omega), if_pos rfl]; rfl
  · rw [if_neg (by omega), if_neg e, ← List.getD_eq_getElem?_getD]
theorem cut_sub {s : List (List Int)} {w : Int} (f : Int) {v x : Int} (h0 : 0 ≤ w) (h1 : w < s.length) (v0 : 0 ≤ v) (h : x ∈ lf (cut s w f) v) : x ∈ lf s v := by
  rw [lf_cut s f v h0 h1 v0] at h
  split at h
  · rename_i e
    subst e
    exact (List.mem_filter.mp h).1
  · exact h
theorem cut_LB (hl : LB words left) (hw : InW words w) : LB words (cut left w f) := ⟨by rw [cut, List.length_set]; exact hl.1, fun v hv x hx =>
  hl.2 v hv x (cut_sub f hw.1 (by rw [hl.1]; exact hw.2) hv.1 hx)⟩
def goodRow (words : Wd) (ties : List T3) (left : List (List Int)) (r : T3) : Bool :=
  (decide (0 ≤ r.1) && decide (r.1 < ((words.length : Nat) : Int))) && (memT r.2.1 (lf left r.1) && ((decide (0 ≤ r.2.2) && decide (r.2.2 < ((ties.length : Nat) : Int))) && memT r.1 [(tieAt ties r.2.2).1, (tieAt ties r.2.2).2.1]))
def stepN (words : Wd) (ties : List T3) (x : Int × T3) (s : List (List Int)) : Fw (List (List Int)) D :=
  if !goodRow words ties s x.2 then .back ((eT2 eS eI) (s_row, x.1))
  else if !(pt words s x.2.1 x.2.2.1 (tieAt ties x.2.2.2)).isEmpty then .back ((eT2 eS eI) (s_partner, x.1))
  else .go (cut s x.2.1 x.2.2.1)
theorem good_facts {r : T3} (hl : LB words left) (h : goodRow words ties left r = true) : InW words r.1 ∧ r.2.1 ∈ lf left r.1 ∧ InF words r.1 r.2.1 ∧ (0 ≤ r.2.2 ∧ r.2.2 < ties.length) ∧ tieAt ties r.2.2 ∈ ties ∧ (r.1 = (tieAt ties r.2.2).1 ∨ r.1 = (tieAt ties r.2.2).2.1) := by
  simp only [goodRow, Bool.and_eq_true, decide_eq_true_eq, memT_eq, List.mem_cons, List.not_mem_nil, or_false] at h
  obtain ⟨⟨a, b⟩, c, ⟨d, e⟩, k⟩ := h
  exact ⟨⟨a, b⟩, c, hl.2 _ ⟨a, b⟩ _ c, ⟨d, e⟩, getD_mem _ (by omega), k⟩
theorem stepN_LB (hl : LB words left) {x : Int × T3} {s : List (List Int)} (h : stepN words ties x left = .go s) : LB words s := by
  unfold stepN at h
  split at h
  · cases h
  · rename_i g
    split at h
    · cases h
    · cases h
      exact cut_LB hl (good_facts hl (by simpa using g)).1
/-- the test of a row, as both tell it -/
theorem goodM (h : Wf words ties) (hl : LB words left) (r : T3) :
    ((if (!((decide ((0 : Int) ≤ r.1)) && (decide (r.1 < ((words.length : Nat) : Int))))) then M.ret true else (((ixM left r.1) >>= fun v37 => M.ret (!memT r.2.1 v37)) >>= fun kb => if kb then M.ret true else (if (!((decide ((0 : Int) ≤ r.2.2)) && (decide (r.2.2 < ((ties.length : Nat) : Int))))) then M.ret true else ((((ixM ties r.2.2) >>= fun v38 => M.ret [v38.1, v38.2.1, v38.2.2]) >>= fun v39 => M.ret (cutD v39 none (some (2 : Int)))) >>= fun v41 => M.ret (!memT r.1 v41))))) : M Bool) = .ret (!goodRow words ties left r) := by
  unfold goodRow
  by_cases h1 : (decide ((0 : Int) ≤ r.1) && decide (r.1 < ((words.length : Nat) : Int))) = true
  · have hw : InW words r.1 := by simp only [Bool.and_eq_true, decide_eq_true_eq] at h1; exact h1
    rw [h1, hl.ix hw]
    simp only [Bool.not_true, Bool.false_eq_true, if_false, M.bind_ret, Bool.true_and]
    cases memT r.2.1 (lf left r.1) with
    | false => simp
    | true =>
      simp only [Bool.not_true, Bool.false_eq_true, if_false, Bool.true_and]
      by_cases h2 : (decide ((0 : Int) ≤ r.2.2) && decide (r.2.2 < ((ties.length : Nat) : Int))) = true
      · have ht : 0 ≤ r.2.2 ∧ r.2.2 < ((ties.length : Nat) : Int) := by simp only [Bool.and_eq_true, decide_eq_true_eq] at h2; exact h2
        rw [h2, ixM_ret (0, 0, 0) ht.1 ht.2]
        rfl
      · have h2 := Bool.eq_false_iff.mpr h2
        rw [h2]; simp
  · have h1 := Bool.eq_false_iff.mpr h1
    rw [h1]; simp
def faultN (words : Wd) (ties : List T3) (rows : List T3) : D := match loopP (stepN words ties) (enumT 0 rows) (full words) with
  | .go s => if ((s.map (fun x50 => (decide (((x50.length : Nat) : Int) = (0 : Int))))).any id) then eN () else (eT1 eS) s_left
  | .brk _ => eN ()
  | .back r => r
theorem loopP_brk {α σ ρ : Type} {g : α → σ → Fw σ ρ} : ∀ {xs : List α} {s t : σ}, loopP g xs s ≠ .brk t
  | [], s, t => fun h => nomatch h
  | x :: xs, s, t => by
    unfold loopP
    cases g x s with
    | go s' => exact loopP_brk
    | brk s' => exact fun h => nomatch h
    | back r => exact fun h => nomatch h
theorem asLT3_map : ∀ xs : List T3, asLT3L (xs.map (eT3 eI eI eI)) = .ret xs
  | [] => rfl
  | x :: xs => by
    show (asT3D (eT3 eI eI eI x) >>= fun y => asLT3L (xs.map _) >>= fun ys => M.ret (y :: ys)) = _
    rw [asLT3_map xs]; rfl
def toldN (rows : List T3) : D := eT2 eS (eL (eT3 eI eI eI)) (s_never, rows)
def toldF (row : List Int) : D := eT2 eS (eL eI) (s_forms, row)
theorem toldN0 (rows : List T3) : (dIx (toldN rows) (eI (0 : Int)) >>= fun v1 => asBM (dEq v1 (eS s_forms))) = .ret false := by
  show (M.ret (eS s_never) >>= fun v1 => asBM (dEq v1 (eS s_forms))) = _
  rw [M.bind_ret]; rfl
theorem toldF0 (row : List Int) : (dIx (toldF row) (eI (0 : Int)) >>= fun v1 => asBM (dEq v1 (eS s_forms))) = .ret true := by
  show (M.ret (eS s_forms) >>= fun v1 => asBM (dEq v1 (eS s_forms))) = _
  rw [M.bind_ret]; rfl
theorem toldN1 (rows : List T3) : dIx (toldN rows) (eI (1 : Int)) = .ret (eL (eT3 eI eI eI) rows) := rfl
theorem toldF1 (row : List Int) : dIx (toldF row) (eI (1 : Int)) = .ret (eL eI row) := rfl
theorem agreed_fault_N (h : Wf words ties) (rows : List T3) : t_agreed_fault words ties (toldN rows) = .ret (faultN words ties rows) := by
  unfold t_agreed_fault
  rw [toldN0, M.bind_ret]
  simp only [Bool.false_eq_true, if_false]
  rw [full_ret h, M.bind_ret, toldN1, M.bind_ret]
  show ((asLT3L (rows.map (eT3 eI eI eI)) >>= fun v33 => M.ret (enumT 0 v33)) >>= _) >>= _ = _
  rw [asLT3_map, M.bind_ret, M.bind_ret]
  rw [loopR_ret (g := stepN words ties) (LB words) (full_LB words) fun x hx s hs => ⟨?_, fun s' e => stepN_LB hs e⟩]
  · rw [M.bind_ret]
    unfold faultN
    cases hq : loopP (stepN words ties) (enumT 0 rows) (full words) with
    | go s => rfl
    | brk s => exact absurd hq loopP_brk
    | back r => rfl
  · rw [goodM h hs x.2, M.bind_ret]
    unfold stepN
    cases hg : goodRow words ties s x.2 with
    | false => rfl
    | true =>
      obtain ⟨a, b, c, d, e, k⟩ := good_facts hs hg
      simp only [Bool.not_true, Bool.false_eq_true, if_false]
      rw [ixM_ret (0, 0, 0) d.1 d.2, M.bind_ret]
      show ((t_partners words s x.2.1 x.2.2.1 (tieAt ties x.2.2.2) >>= _) >>= _) = _
      rw [t_partners_ret h hs e k c, M.bind_ret, M.bind_ret]
      cases (pt words s x.2.1 x.2.2.1 (tieAt ties x.2.2.2)).isEmpty with
      | false => rfl
      | true =>
        simp only [Bool.not_true, Bool.false_eq_true, if_false]
        rw [hs.ix a, M.bind_ret, lcM_fil (c' := fun y => !decide (y = x.2.2.1)) (fun _ _ => rfl), M.bind_ret, setM_ret _ a.1 (by rw [hs.1]; exact a.2)]
        rfl
end
end K74

set_option Elab.async false
set_option linter.all false
set_option maxRecDepth 100000
set_option maxHeartbeats 2000000
namespace K74
open PySem PySem.Spec L2 DL
def gl (r : List Int) (w : Int) : Int := r.getD w.toNat 0
def agr (words : Wd) (r : Int → Int) (t : T3) : Prop := gv words t.1 (r t.1) t.2.2 = gv words t.2.1 (r t.2.1) t.2.2
instance (words : Wd) (r : Int → Int) (t : T3) : Decidable (agr words r t) := inferInstanceAs (Decidable (_ = _))
def Way (words : Wd) (ties : List T3) (r : Int → Int) : Prop := (∀ w, InW words w → InF words w (r w)) ∧ ∀ t ∈ ties, agr words r t
def IsWay (words : Wd) (ties : List T3) (r : List Int) : Prop := r.length = words.length ∧ Way words ties (gl r)
def formBad (words : Wd) (x : Int × Int) : Bool := !(decide (0 ≤ x.2) && decide (x.2 < (((wf words x.1).length : Nat) : Int)))
def tieBad (words : Wd) (row : List Int) (x : Int × T3) : Bool := !decide (agr words (gl row) x.2)
def faultF (words : Wd) (ties : List T3) (row : List Int) : D :=
  if !decide (((row.length : Nat) : Int) = ((words.length : Nat) : Int)) then (eT1 eS) s_length else
  match (enumT 0 row).find? (formBad words) with
  | some x => (eT2 eS eI) (s_form, x.1)
  | none => match (enumT 0 ties).find? (tieBad words row) with
    | some x => (eT2 eS eI) (s_tie, x.1)
    | none => eN ()
theorem loopR_find {α ρ : Type} {f : α → Unit → M (Fw Unit ρ)} {p : α → Bool} {g : α → ρ} : ∀ {xs : List α}, (∀ x ∈ xs, f x () = .ret (if p x then .back (g x) else .go ())) → loopR f xs () = .ret (match xs.find? p with
  | some x => .back (g x)
  | none => .go ())
  | [], _ => rfl
  | x :: xs, h => by
    unfold loopR
    rw [h x List.mem_cons_self, M.bind_ret, List.find?_cons]
    cases hp : p x with
    | true => rfl
    | false => exact loopR_find fun y hy => h y (List.mem_cons_of_mem _ hy)
section
variable {words : Wd} {ties : List T3} {row : List Int}
theorem enumT_map {α β : Type} (f : α → β) : ∀ (k : Nat) (xs : List α), enumT k (xs.map f) = (enumT k xs).map fun p => (p.1, f p.2)
  | k, [] => rfl
  | k, x :: xs => by show (_, _) :: enumT (k + 1) (xs.map f) = _; rw [enumT_map f (k + 1) xs]; rfl
theorem row_in (hn : row.length = words.length) (hg : (enumT 0 row).find? (formBad words) = none) {w : Int} (hw : InW words w) : InF words w (gl row w) := by
  have h := List.find?_eq_none.mp hg
  have hw2 : w.toNat < row.length := by have := hw.1; have := hw.2; omega
  have hm : (w, gl row w) ∈ enumT 0 row := by
    have gen : ∀ (k : Nat) (xs : List Int) (i : Nat), i < xs.length → (((k + i : Nat) : Int), xs.getD i 0) ∈ enumT k xs := by
      intro k xs
      induction xs generalizing k with
      | nil => intro i hi; simp at hi
      | cons x xs ih =>
        intro i hi
        cases i with
        | zero => exact List.mem_cons_self
        | succ i =>
          have := ih (k + 1) i (by simpa using hi)
          have e : k + 1 + i = k + (i + 1) := by omega
          rw [e] at this
          exact List.mem_cons_of_mem _ this
    have := gen 0 row w.toNat hw2
    have e : ((0 + w.toNat : Nat) : Int) = w := by have := hw.1; omega
    rw [e] at this
    exact this
  have := h _ hm
  simp only [formBad, Bool.not_eq_true', Bool.not_eq_false, Bool.and_eq_true, decide_eq_true_eq] at this
  unfold InF
  simpa using this
theorem asI_ix (row : List Int) {w : Int} (h0 : 0 ≤ w) (h1 : w < row.length) : (dIx (eL eI row) (eI w) >>= asI) = .ret (gl row w) := by
  show (M.opt (atI (row.map eI) w) >>= asI) = _
  rw [atI_ret (eI 0) h0 (by rw [List.length_map]; exact h1), getD_map']
  rfl
theorem agreed_fault_F (h : Wf words ties) (row : List Int) : t_agreed_fault words ties (toldF row) = .ret (faultF words ties row) := by
  unfold t_agreed_fault faultF
  rw [toldF0, M.bind_ret]
  simp only [if_true]
  rw [toldF1, M.bind_ret]
  have hl : asIM (dLen [eL eI row]) = .ret ((row.length : Nat) : Int) := by
    show M.ret (((row.map eI).length : Nat) : Int) = _
    rw [List.length_map]
  rw [hl, M.bind_ret, M.bind_ret]
  by_cases hn : row.length = words.length
  · have e : (!decide (((row.length : Nat) : Int) = ((words.length : Nat) : Int))) = false := by rw [hn]; simp
    rw [e]
    simp only [Bool.false_eq_true, if_false]
    rw [M.bind_ret]
    show (M.ret (enumT 0 (row.map eI)) >>= _) >>= _ = _
    rw [M.bind_ret, enumT_map, loopR_map]
    rw [loopR_find (p := formBad words) (g := fun x => (eT2 eS eI) (s_form, x.1)) fun x hx => ?_]
    · rw [M.bind_ret]
      cases hg : (enumT 0 row).find? (formBad words) with
      | some x => rfl
      | none =>
        show ((loopR _ (enumT 0 ties) () >>= _) : M D) = _
        rw [loopR_find (p := tieBad words row) (g := fun x => (eT2 eS eI) (s_tie, x.1)) fun x hx => ?_]
        · rw [M.bind_ret]
          cases (enumT 0 ties).find? (tieBad words row) <;> rfl
        · obtain ⟨g1, g2, g3, g4⟩ := enumT_get (0, 0, 0) 0 ties hx
          obtain ⟨a, b, c, d, e, k0, k2⟩ := h.tie _ g4
          have h1 : InW words x.2.1 := ⟨a, b⟩
          have h2 : InW words x.2.2.1 := ⟨c, d⟩
          have i1 := row_in hn hg h1
          have i2 := row_in hn hg h2
          rw [ixW h1, M.bind_ret, M.bind_ret, asI_ix row h1.1 (by rw [hn]; exact h1.2), M.bind_ret, ixF i1, M.bind_ret, h.ixT h1 i1 k0 k2, M.bind_ret]
          rw [ixW h2, M.bind_ret, M.bind_ret, asI_ix row h2.1 (by rw [hn]; exact h2.2), M.bind_ret, ixF i2, M.bind_ret, h.ixT h2 i2 k0 k2, M.bind_ret, M.bind_ret]
          exact (apply_ite M.ret (tieBad words row x = true) _ _).symm
    · obtain ⟨g1, g2, g3, g4⟩ := enumT_get 0 0 row hx
      have hw : InW words x.1 := ⟨by omega, by omega⟩
      show (((M.ret x.2 >>= _) >>= _) >>= _) = _
      rw [M.bind_ret, ixW hw]
      unfold formBad
      by_cases h0 : (0 : Int) ≤ x.2
      · simp only [h0, decide_true, if_true, M.bind_ret, Bool.true_and]
        cases (!decide (x.2 < (((wf words x.1).length : Nat) : Int))) <;> rfl
      · simp [h0]
  · have e : (!decide (((row.length : Nat) : Int) = ((words.length : Nat) : Int))) = true := by
      have : ¬ ((row.length : Nat) : Int) = ((words.length : Nat) : Int) := by omega
      simp [this]
    rw [e]; rfl
theorem find_filter {α : Type} (p : α → Bool) (xs : List α) : (xs.filter p).head? = xs.find? p := by
  induction xs with
  | nil => rfl
  | cons x xs ih =>
    rw [List.filter_cons, List.find?_cons]
    cases p x with
    | true => rfl
    | false => exact ih
theorem find_map' {α β : Type} (p : β → Bool) (f : α → β) (xs : List α) : (xs.map f).find? p = (xs.find? fun x => p (f x)).map f := by
  induction xs with
  | nil => rfl
  | cons x xs ih =>
    rw [List.map_cons, List.find?_cons, List.find?_cons]
    cases p (f x) with
    | true => rfl
    | false => exact ih
/-- ways have no fault -/
theorem way_fault (hw : IsWay words ties row) : faultF words ties row = eN () := by
  obtain ⟨hn, h1, h2⟩ := hw
  unfold faultF
  have e : (!decide (((row.length : Nat) : Int) = ((words.length : Nat) : Int))) = false := by rw [hn]; simp
  rw [e]
  simp only [Bool.false_eq_true, if_false]
  have e1 : (enumT 0 row).find? (formBad words) = none := List.find?_eq_none.mpr fun x hx => by
    obtain ⟨g1, g2, g3, g4⟩ := enumT_get 0 0 row hx
    have := h1 x.1 ⟨by omega, by omega⟩
    have e : gl row x.1 = x.2 := by
      have e : (x.1 - ((0 : Nat) : Int)).toNat = x.1.toNat := by omega
      rw [e] at g3
      exact g3
    rw [e] at this
    unfold formBad
    simp [this.1, this.2]
  have e2 : (enumT 0 ties).find? (tieBad words row) = none := List.find?_eq_none.mpr fun x hx => by
    obtain ⟨g1, g2, g3, g4⟩ := enumT_get (0, 0, 0) 0 ties hx
    unfold tieBad
    simp [h2 _ g4]
  rw [e1, e2]
end
end K74

set_option Elab.async false
set_option linter.all false
set_option maxRecDepth 100000
set_option maxHeartbeats 2000000
namespace K74
open PySem PySem.Spec L2 DL
section
variable {words : Wd} {ties : List T3} {left : List (List Int)} {rows : List T3} {w f : Int} {t : T3}
/-- what holds of what is left, at all times -/
structure Inv (words : Wd) (ties : List T3) (left : List (List Int)) (rows : List T3) : Prop where
  lb : LB words left
  up : ∀ w, InW words w → (lf left w).Pairwise (· < ·)
  way : ∀ r, Way words ties r → ∀ w, InW words w → r w ∈ lf left w
  run : loopP (stepN words ties) (enumT 0 rows) (full words) = .go left
  few : rows.length ≤ 1000
/-- each form left has a partner -/
def Arc (words : Wd) (left : List (List Int)) (t : T3) : Prop := ∀ w, (w = t.1 ∨ w = t.2.1) → ∀ f ∈ lf left w, pt words left w f t ≠ []
theorem inv_full (h : Wf words ties) : Inv words ties (full words) [] where
  lb := full_LB words
  up := fun w hw => by
    rw [lf_full hw, List.pairwise_map]
    exact (List.pairwise_lt_range).imp fun h => by omega
  way := fun r hr w hw => by
    rw [lf_full hw]
    obtain ⟨h0, h1⟩ := hr.1 w hw
    exact List.mem_map.mpr ⟨(r w).toNat, List.mem_range.mpr (by omega), by omega⟩
  run := rfl
  few := by simp
def size (l : List (List Int)) : Nat := (l.map List.length).sum
theorem size_set : ∀ (l : List (List Int)) (i : Nat) (x : List Int), i < l.length → size (l.set i x) + (l.getD i []).length = size l + x.length
  | [], i, x, h => absurd h (by simp)
  | y :: ys, 0, x, h => by simp [size]; omega
  | y :: ys, i + 1, x, h => by
    have := size_set ys i x (by simpa using h)
    simp only [size, List.set_cons_succ, List.map_cons, List.sum_cons, List.getD_cons_succ] at this ⊢
    omega
theorem filter_less {l : List Int} {f : Int} (h : f ∈ l) : (l.filter fun a => !decide (a = f)).length < l.length := by
  induction l with
  | nil => cases h
  | cons y ys ih =>
    rw [List.filter_cons]
    by_cases e : y = f
    · subst e
      simp only [decide_true, Bool.not_true, Bool.false_eq_true, if_false, List.length_cons]
      have := List.length_filter_le (fun a => !decide (a = y)) ys
      omega
    · rcases List.mem_cons.mp h with rfl | h
      · exact absurd rfl e
      · have := ih h
        simp only [decide_eq_false e, Bool.not_false, if_true, List.length_cons]
        omega
theorem size_cut (hl : LB words left) (hw : InW words w) (hf : f ∈ lf left w) : size (cut left w f) < size left := by
  have h1 := size_set left w.toNat ((lf left w).filter fun a => !decide (a = f)) (by rw [hl.1]; have := hw.1; have := hw.2; omega)
  have h2 := filter_less hf
  unfold cut
  unfold lf at h1 h2 ⊢
  omega
theorem pt_way (h : Wf words ties) (ht : t ∈ ties) (hw : w = t.1 ∨ w = t.2.1) (I : Inv words ties left rows) {r : Int → Int} (hr : Way words ties r) (e : r w = f) : r (far w t) ∈ pt words left w f t := by
  have hfw := h.fw (w := w) ht
  refine List.mem_filter.mpr ⟨I.way r hr _ hfw, ?_⟩
  rw [decide_eq_true_eq]
  have ha := hr.2 t ht
  unfold agr at ha
  have hn := (h.tie t ht).2.2.2.2.1
  rcases hw with rfl | rfl
  · have ef : far t.1 t = t.2.1 := by unfold far; simp
    rw [ef, ← e]; exact ha.symm
  · have ef : far t.2.1 t = t.1 := by unfold far; rw [if_neg]; simp; exact fun z => hn z.symm
    rw [ef, ← e]; exact ha
theorem stepN_brk (x : Int × T3) (s u : List (List Int)) : stepN words ties x s ≠ .brk u := by
  unfold stepN
  split
  · exact fun z => (nomatch z)
  · split
    · exact fun z => (nomatch z)
    · exact fun z => (nomatch z)
theorem inv_cut (h : Wf words ties) (I : Inv words ties left rows) {k : Nat} (hk : k < ties.length) (e : tieAt ties k = t) (hw : w = t.1 ∨ w = t.2.1) (hf : f ∈ lf left w) (hp : pt words left w f t = []) (hs : rows.length < 1000) :
    Inv words ties (cut left w f) (rows ++ [(w, f, (k : Int))]) := by
  have ht : t ∈ ties := by rw [← e]; exact getD_mem _ (by omega)
  have hiw := h.tw ht hw
  have hlt : w < left.length := by rw [I.lb.1]; exact hiw.2
  refine ⟨cut_LB I.lb hiw, fun v hv => ?_, fun r hr v hv => ?_, ?_, by simp; omega⟩
  · rw [lf_cut left f v hiw.1 hlt hv.1]
    split
    · exact (I.up w hiw).sublist List.filter_sublist
    · exact I.up v hv
  · rw [lf_cut left f v hiw.1 hlt hv.1]
    have hm := I.way r hr v hv
    split
    · rename_i ev
      subst ev
      refine List.mem_filter.mpr ⟨hm, ?_⟩
      rw [Bool.not_eq_true', decide_eq_false_iff_not]
      intro ef
      have := pt_way h ht hw I hr ef
      rw [hp] at this
      cases this
    · exact hm
  · rw [enumT_append, loopP_append stepN_brk I.run]
    show loopP (stepN words ties) [((0 + rows.length : Nat), _)] left = _
    unfold loopP stepN
    have g : goodRow words ties left (w, f, (k : Int)) = true := by
      unfold goodRow
      simp only [Bool.and_eq_true, decide_eq_true_eq, memT_eq]
      refine ⟨hiw, hf, ⟨by omega, by omega⟩, ?_⟩
      rw [e]
      rcases hw with rfl | rfl <;> simp
    rw [g, e, hp]
    rfl
/-! ### one turn -/
abbrev S3 := List (List Int) × List T3 × Bool
/-- what holds while ties are gone through: w0 what was left at the start -/
structure Trn (words : Wd) (ties : List T3) (l0 : List (List Int)) (s : S3) : Prop where
  inv : Inv words ties s.1 s.2.1
  sz : size s.1 + s.2.1.length ≤ 16
  still : s.2.2 = false → s.1 = l0
  less : s.2.2 = true → size s.1 < size l0
  le : size s.1 ≤ size l0
def bodyF (words : Wd) (ties : List T3) (x7 : Int) (x5 : Int × T3) (x10 : Int) (s11 : S3) : M S3 := ((((((t_partners words s11.1 x7 x10 x5.2)) >>= fun v12 => .ret (!v12.isEmpty)) >>= fun kb => .ret (!kb)) >>= fun kb => if kb then ((ixM s11.1 x7) >>= fun v14 => (lcM (fun x13 => (M.ret (!decide (x13 = x10)))) (fun x13 => (M.ret x13))) v14) >>= fun v17 => setM s11.1 x7 v17 >>= fun left_v15 => appM s11.2.1 (x7, x10, x5.1) >>= fun rows_v16 => .ret (left_v15, rows_v16, true) else .ret (s11.1, s11.2.1, s11.2.2)) : M ((List (List Int)) × (List (Int × Int × Int)) × Bool)) >>= fun s18 => .ret (s18.1, s18.2.1, s18.2.2)
/-- one form -/
theorem rt_bodyF (h : Wf words ties) {l0 : List (List Int)} {x5 : Int × T3} (hx : x5 ∈ enumT 0 ties) (hw : w = x5.2.1 ∨ w = x5.2.2.1) {fs pre suf : List Int} (hnd : fs.Nodup) {x : Int} (e : fs = pre ++ x :: suf) {s : S3} {b0 : Bool}
    (T : Trn words ties l0 s) (hsub : ∀ y ∈ fs, y ∉ pre → y ∈ lf s.1 w) (hp : s.2.2 = false → b0 = false ∧ ∀ y ∈ pre, pt words l0 w y x5.2 ≠ []) :
    Rt (bodyF words ties w x5 x s) fun s' => Trn words ties l0 s' ∧ (∀ y ∈ fs, y ∉ pre ++ [x] → y ∈ lf s'.1 w) ∧ (s'.2.2 = false → b0 = false ∧ ∀ y ∈ pre ++ [x], pt words l0 w y x5.2 ≠ []) := by
  obtain ⟨g1, g2, g3, g4⟩ := enumT_get (0, 0, 0) 0 ties hx
  have e0 : (x5.1 - ((0 : Nat) : Int)).toNat = x5.1.toNat := by omega
  rw [e0] at g3
  have hiw := h.tw g4 hw
  have hxm : x ∈ lf s.1 w := hsub x (by rw [e]; simp) (by
    intro z
    rw [e] at hnd
    exact (List.nodup_append.mp hnd).2.2 x z x List.mem_cons_self rfl)
  have hif := T.inv.lb.2 w hiw x hxm
  unfold bodyF
  rw [t_partners_ret h T.inv.lb g4 hw hif, M.bind_ret, M.bind_ret, M.bind_ret]
  cases hpt : pt words s.1 w x x5.2 with
  | nil =>
    simp only [List.isEmpty_nil, Bool.not_true, Bool.not_false, if_true]
    rw [T.inv.lb.ix hiw, M.bind_ret, lcM_fil (c' := fun y => !decide (y = x)) (fun _ _ => rfl), M.bind_ret, setM_ret _ hiw.1 (by rw [T.inv.lb.1]; exact hiw.2), M.bind_ret, appM_ret (by have := T.inv.few; omega), M.bind_ret, M.bind_ret]
    have hsz := size_cut T.inv.lb hiw hxm
    have hl : s.2.1.length < 1000 := by have := T.sz; omega
    have I := inv_cut h T.inv (k := x5.1.toNat) (by omega) (t := x5.2) (by unfold tieAt; rw [Int.toNat_natCast]; exact g3) hw hxm hpt hl
    have ek : ((x5.1.toNat : Nat) : Int) = x5.1 := by omega
    rw [ek] at I
    refine Rt.ret ⟨⟨I, ?_, fun z => (nomatch z), fun _ => ?_, ?_⟩, fun y hy hy2 => ?_, fun z => (nomatch z)⟩
    · show size (cut s.1 w x) + (s.2.1 ++ [_]).length ≤ 16
      have := T.sz
      simp only [List.length_append, List.length_singleton]
      omega
    · have := T.le
      show size (cut s.1 w x) < size l0
      omega
    · have := T.le
      show size (cut s.1 w x) ≤ size l0
      omega
    · show y ∈ lf (cut s.1 w x) w
      rw [lf_cut s.1 x w hiw.1 (by rw [T.inv.lb.1]; exact hiw.2) hiw.1, if_pos rfl]
      refine List.mem_filter.mpr ⟨hsub y hy fun z => hy2 (List.mem_append_left _ z), ?_⟩
      rw [Bool.not_eq_true', decide_eq_false_iff_not]
      rintro rfl
      exact hy2 (by simp)
  | cons a as =>
    simp only [List.isEmpty_cons, Bool.not_false, Bool.not_true, Bool.false_eq_true, if_false, M.bind_ret]
    refine Rt.ret ⟨T, fun y hy hy2 => hsub y hy fun z => hy2 (List.mem_append_left _ z), fun z => ⟨(hp z).1, fun y hy => ?_⟩⟩
    rcases List.mem_append.mp hy with hy | hy
    · exact (hp z).2 y hy
    · have e : y = x := by simpa using hy
      subst e
      rw [← T.still z, hpt]
      exact fun z => (nomatch z)
/-- a loop by what holds of what is walked, and what comes -/
theorem rt_loopD {α σ : Type} {f : α → σ → M σ} (I : List α → σ → Prop) {all : List α} : ∀ (xs pre : List α) (s : σ), all = pre ++ xs → (∀ pre x suf, all = pre ++ x :: suf → ∀ s, I pre s → Rt (f x s) (I (pre ++ [x]))) → I pre s → Rt (loopM f xs s) (I all)
  | [], pre, s, e, _, h => Rt.ret (by rw [e, List.append_nil]; exact h)
  | x :: xs, pre, s, e, hf, h => by
    unfold loopM
    exact (hf pre x xs e s h).bind fun s' h' => rt_loopD I xs (pre ++ [x]) s' (by rw [e, List.append_assoc]; rfl) hf h'
def bodyW (words : Wd) (ties : List T3) (x5 : Int × T3) (x7 : Int) (s8 : S3) : M S3 := ((((ixM s8.1 x7) >>= fun v9 => .ret v9) >>= fun v19 => loopM (fun x10 s11 => bodyF words ties x7 x5 x10 s11) v19 (s8.1, s8.2.1, s8.2.2)) : M S3) >>= fun s20 => .ret (s20.1, s20.2.1, s20.2.2)
theorem rt_bodyW (h : Wf words ties) {l0 : List (List Int)} {x5 : Int × T3} (hx : x5 ∈ enumT 0 ties) (hw : w = x5.2.1 ∨ w = x5.2.2.1) {s : S3} (T : Trn words ties l0 s) :
    Rt (bodyW words ties x5 w s) fun s' => Trn words ties l0 s' ∧ (s'.2.2 = false → s.2.2 = false ∧ ∀ y ∈ lf l0 w, pt words l0 w y x5.2 ≠ []) := by
  obtain ⟨g1, g2, g3, g4⟩ := enumT_get (0, 0, 0) 0 ties hx
  have hiw := h.tw g4 hw
  unfold bodyW
  rw [T.inv.lb.ix hiw, M.bind_ret, M.bind_ret]
  have hnd : (lf s.1 w).Nodup := (T.inv.up w hiw).imp fun h => by omega
  refine Rt.bind (rt_loopD (I := fun pre s' => Trn words ties l0 s' ∧ (∀ y ∈ lf s.1 w, y ∉ pre → y ∈ lf s'.1 w) ∧ (s'.2.2 = false → s.2.2 = false ∧ ∀ y ∈ pre, pt words l0 w y x5.2 ≠ [])) (lf s.1 w) [] s rfl (fun pre x suf e s' ⟨a, b, c⟩ => rt_bodyF h hx hw hnd e a b c) ⟨T, fun y hy _ => hy, fun z => ⟨z, fun y hy => absurd hy (by simp)⟩⟩) fun s' ⟨a, b, c⟩ => Rt.ret ⟨a, fun z => ?_⟩
  obtain ⟨z1, z2⟩ := c z
  exact ⟨z1, by rw [← T.still z1]; rw [← T.still z1] at z2; exact z2⟩
def bodyT (words : Wd) (ties : List T3) (x5 : Int × T3) (s6 : S3) : M S3 := ((loopM (fun x7 s8 => bodyW words ties x5 x7 s8) (cutD [x5.2.1, x5.2.2.1, x5.2.2.2] none (some (2 : Int))) (s6.1, s6.2.1, s6.2.2)) : M S3) >>= fun s22 => .ret (s22.1, s22.2.1, s22.2.2)
theorem rt_bodyT (h : Wf words ties) {l0 : List (List Int)} {x5 : Int × T3} (hx : x5 ∈ enumT 0 ties) {s : S3} (T : Trn words ties l0 s) :
    Rt (bodyT words ties x5 s) fun s' => Trn words ties l0 s' ∧ (s'.2.2 = false → s.2.2 = false ∧ Arc words l0 x5.2) := by
  unfold bodyT
  have e : cutD [x5.2.1, x5.2.2.1, x5.2.2.2] none (some (2 : Int)) = [x5.2.1, x5.2.2.1] := cutD_take _ 2
  rw [e]
  unfold loopM
  refine Rt.bind ((rt_bodyW h hx (.inl rfl) T).bind fun s1 ⟨a1, b1⟩ => ?_) (P := fun s' => Trn words ties l0 s' ∧ (s'.2.2 = false → s.2.2 = false ∧ Arc words l0 x5.2)) fun s' hs => Rt.ret hs
  unfold loopM
  refine (rt_bodyW h hx (.inr rfl) a1).bind fun s2 ⟨a2, b2⟩ => ?_
  refine Rt.ret ⟨a2, fun z => ?_⟩
  obtain ⟨z1, z2⟩ := b2 z
  obtain ⟨z3, z4⟩ := b1 z1
  refine ⟨z3, fun w hw => ?_⟩
  rcases hw with rfl | rfl
  · exact z4
  · exact z2
structure Lo (words : Wd) (ties : List T3) (left : List (List Int)) (rows : List T3) : Prop extends Inv words ties left rows where
  arc : ∀ t ∈ ties, Arc words left t
  small : rows.length ≤ 900
structure Whl (words : Wd) (ties : List T3) (s : S3) : Prop where
  inv : Inv words ties s.1 s.2.1
  sz : size s.1 + s.2.1.length ≤ 16
  arc : s.2.2 = false → ∀ t ∈ ties, Arc words s.1 t
def turn (words : Wd) (ties : List T3) (s4 : S3) : M S3 := ((loopM (fun x5 s6 => bodyT words ties x5 s6) (enumT 0 ties) (s4.1, s4.2.1, false)) : M S3) >>= fun s24 => .ret (s24.1, s24.2.1, s24.2.2)
theorem rt_turn (h : Wf words ties) {s : S3} (W : Whl words ties s) : Rt (turn words ties s) fun s' => Whl words ties s' ∧ (s'.2.2 = true → size s'.1 < size s.1) := by
  unfold turn
  refine Rt.bind (rt_loopM0 (I := fun pre s' => Trn words ties s.1 s' ∧ (s'.2.2 = false → ∀ p ∈ pre, Arc words s.1 p.2)) (fun x hx pre s' ⟨a, b⟩ => (rt_bodyT h hx a).mono fun s2 ⟨c, d⟩ => ⟨c, fun z => ?_⟩) ⟨⟨W.inv, W.sz, fun _ => rfl, fun z => (nomatch z), Nat.le_refl _⟩, fun _ p hp => absurd hp (by simp)⟩) fun s' ⟨a, b⟩ => Rt.ret ⟨⟨a.inv, a.sz, fun z t ht => ?_⟩, a.less⟩
  · obtain ⟨z1, z2⟩ := d z
    intro p hp
    rcases List.mem_append.mp hp with hp | hp
    · exact b z1 p hp
    · have e : p = x := by simpa using hp
      subst e
      exact z2
  · have z : s'.2.2 = false := z
    show Arc words s'.1 t
    rw [a.still z]
    obtain ⟨i, hi, e⟩ := List.mem_iff_getElem.mp ht
    have hm : ∃ p ∈ enumT 0 ties, p.2 = t := by
      have gen : ∀ (k : Nat) (xs : List T3), t ∈ xs → ∃ p ∈ enumT k xs, p.2 = t := by
        intro k xs
        induction xs generalizing k with
        | nil => intro h; cases h
        | cons x xs ih =>
          intro h
          rcases List.mem_cons.mp h with rfl | h
          · exact ⟨_, List.mem_cons_self, rfl⟩
          · obtain ⟨p, hp, e⟩ := ih (k + 1) h
            exact ⟨p, List.mem_cons_of_mem _ hp, e⟩
      exact gen 0 ties ht
    obtain ⟨p, hp, rfl⟩ := hm
    exact b z p hp
theorem rt_while (h : Wf words ties) : ∀ (n : Nat) (s : S3), Whl words ties s → (if s.2.2 then size s.1 + 1 else 0) < n → Rt (whileM (fun s4 => M.ret s4.2.2) (fun s4 => turn words ties s4) n s) fun s' => Whl words ties s' ∧ s'.2.2 = false
  | 0, s, _, hn => absurd hn (by omega)
  | n + 1, s, W, hn => by
    unfold whileM
    rw [M.bind_ret]
    cases hb : s.2.2 with
    | false =>
      simp only [Bool.false_eq_true, if_false]
      exact Rt.ret ⟨W, hb⟩
    | true =>
      simp only [if_true]
      rw [hb] at hn
      simp only [if_true] at hn
      refine (rt_turn h W).bind fun s' ⟨W', hl⟩ => rt_while h n s' W' ?_
      cases hb' : s'.2.2 with
      | false => simp; omega
      | true => have := hl hb'; simp; omega
theorem size_full : ∀ ws : Wd, (∀ x ∈ ws, x.length ≤ 4) → size (full ws) ≤ 4 * ws.length
  | [], _ => by simp [size, full]
  | x :: xs, h => by
    have h1 := h x List.mem_cons_self
    have h2 := size_full xs fun y hy => h y (List.mem_cons_of_mem _ hy)
    unfold size full at h2 ⊢
    simp only [List.map_cons, List.sum_cons, List.length_map, List.length_range, List.length_cons]
    omega
theorem rt_left_out (h : Wf words ties) : Rt (t_left_out words ties) fun p => Lo words ties p.1 p.2 := by
  unfold t_left_out
  rw [full_ret h, M.bind_ret, M.bind_ret]
  have hs := size_full words h.lens
  have hn := h.n1
  refine Rt.bind (rt_while h 100 (full words, [], true) ⟨inv_full h, by show size (full words) + 0 ≤ 16; omega, fun z => (nomatch z)⟩ (by simp; omega)) fun s ⟨W, hb⟩ => ?_
  exact Rt.ret { W.inv with arc := W.arc hb, small := by have := W.sz; show s.2.1.length ≤ 900; omega }
end
end K74

set_option Elab.async false
set_option linter.all false
set_option maxRecDepth 100000
set_option maxHeartbeats 2000000
namespace K74
open PySem PySem.Spec L2 DL
section
variable {words : Wd} {ties : List T3} {left : List (List Int)} {rows : List T3} {w f : Int} {t : T3}
/-! ### the forest -/
def PM (words : Wd) (ties : List T3) (left : List (List Int)) (m : Int) (r : Int → Int) : Prop := (∀ v, 0 ≤ v → v < m → r v ∈ lf left v) ∧ ∀ t ∈ ties, t.1 < m → t.2.1 < m → agr words r t
def upI (r : Int → Int) (m f : Int) : Int → Int := fun v => if v = m then f else r v
theorem upI_eq (r : Int → Int) (m f : Int) : upI r m f m = f := by unfold upI; rw [if_pos rfl]
theorem upI_ne (r : Int → Int) {m v : Int} (f : Int) (h : v ≠ m) : upI r m f v = r v := by unfold upI; rw [if_neg h]
theorem pm_ext {m : Int} {r : Int → Int} (P : PM words ties left m r) (hf : f ∈ lf left m) (ht : ∀ t ∈ ties, max t.1 t.2.1 = m → agr words (upI r m f) t) : PM words ties left (m + 1) (upI r m f) := by
  refine ⟨fun v h0 h1 => ?_, fun t hm h1 h2 => ?_⟩
  · by_cases e : v = m
    · subst e; rw [upI_eq]; exact hf
    · rw [upI_ne r f e]; exact P.1 v h0 (by omega)
  · by_cases e : max t.1 t.2.1 = m
    · exact ht t hm e
    · have a1 : t.1 ≠ m := by omega
      have a2 : t.2.1 ≠ m := by omega
      unfold agr
      rw [upI_ne r f a1, upI_ne r f a2]
      exact P.2 t hm (by omega) (by omega)
theorem far_l (t : T3) : far t.1 t = t.2.1 := by unfold far; simp
theorem far_r {t : T3} (h : t.1 ≠ t.2.1) : far t.2.1 t = t.1 := by unfold far; rw [if_neg]; simp; exact fun z => h z.symm
theorem forest (h : Wf words ties) (A : ∀ t ∈ ties, Arc words left t) (N : ∀ w, InW words w → lf left w ≠ []) : ∀ m : Nat, m ≤ words.length → (∃ r, PM words ties left m r) ∧ ∀ w f : Int, 0 ≤ w → w < m → f ∈ lf left w → ∃ r, PM words ties left m r ∧ r w = f
  | 0, _ => ⟨⟨fun _ => 0, fun v a b => absurd b (by omega), fun t hm a b => absurd a (by have := (h.tie t hm).1; omega)⟩, fun w f a b => absurd b (by omega)⟩
  | m + 1, hm => by
    obtain ⟨ih1, ih2⟩ := forest h A N m (by omega)
    have hmw : InW words (m : Int) := ⟨by omega, by omega⟩
    have key : (∀ r, PM words ties left m r → ∃ f, f ∈ lf left m ∧ PM words ties left ((m : Int) + 1) (upI r m f)) ∧ ∀ f ∈ lf left m, ∃ r, PM words ties left m r ∧ PM words ties left ((m : Int) + 1) (upI r m f) := by
      by_cases ht : ∃ t ∈ ties, max t.1 t.2.1 = (m : Int)
      · obtain ⟨t, htm, hmax⟩ := ht
        obtain ⟨a, b, c, d, e, k0, k2⟩ := h.tie t htm
        have only : ∀ u ∈ ties, max u.1 u.2.1 = (m : Int) → u = t := fun u hu hum => h.uniq u hu t htm (by rw [hum, hmax])
        rcases (show t.1 = (m : Int) ∧ t.2.1 < m ∨ t.2.1 = (m : Int) ∧ t.1 < m by omega) with ⟨em, lo⟩ | ⟨em, lo⟩
        · refine ⟨fun r P => ?_, fun f hf => ?_⟩
          · obtain ⟨g, hg⟩ := List.exists_mem_of_ne_nil _ (A t htm t.2.1 (.inr rfl) (r t.2.1) (P.1 _ c lo))
            obtain ⟨g1, g2⟩ := List.mem_filter.mp hg
            rw [far_r e, em] at g1
            rw [far_r e, decide_eq_true_eq] at g2
            refine ⟨g, g1, pm_ext P g1 fun u hu hum => ?_⟩
            rw [only u hu hum]
            unfold agr
            rw [upI_ne r g (show t.2.1 ≠ (m : Int) by omega), show upI r m g t.1 = g by rw [em, upI_eq]]
            exact g2
          · have ha := A t htm t.1 (.inl rfl) f (by rw [em]; exact hf)
            obtain ⟨g, hg⟩ := List.exists_mem_of_ne_nil _ ha
            obtain ⟨g1, g2⟩ := List.mem_filter.mp hg
            rw [far_l] at g1
            rw [far_l, decide_eq_true_eq] at g2
            obtain ⟨r, P, er⟩ := ih2 t.2.1 g c lo g1
            refine ⟨r, P, pm_ext P hf fun u hu hum => ?_⟩
            rw [only u hu hum]
            unfold agr
            rw [upI_ne r f (show t.2.1 ≠ (m : Int) by omega), show upI r m f t.1 = f by rw [em, upI_eq], er]
            exact g2.symm
        · refine ⟨fun r P => ?_, fun f hf => ?_⟩
          · obtain ⟨g, hg⟩ := List.exists_mem_of_ne_nil _ (A t htm t.1 (.inl rfl) (r t.1) (P.1 _ a lo))
            obtain ⟨g1, g2⟩ := List.mem_filter.mp hg
            rw [far_l, em] at g1
            rw [far_l, decide_eq_true_eq] at g2
            refine ⟨g, g1, pm_ext P g1 fun u hu hum => ?_⟩
            rw [only u hu hum]
            unfold agr
            rw [upI_ne r g (show t.1 ≠ (m : Int) by omega), show upI r m g t.2.1 = g by rw [em, upI_eq]]
            exact g2.symm
          · have ha := A t htm t.2.1 (.inr rfl) f (by rw [em]; exact hf)
            obtain ⟨g, hg⟩ := List.exists_mem_of_ne_nil _ ha
            obtain ⟨g1, g2⟩ := List.mem_filter.mp hg
            rw [far_r e] at g1
            rw [far_r e, decide_eq_true_eq] at g2
            obtain ⟨r, P, er⟩ := ih2 t.1 g a lo g1
            refine ⟨r, P, pm_ext P hf fun u hu hum => ?_⟩
            rw [only u hu hum]
            unfold agr
            rw [upI_ne r f (show t.1 ≠ (m : Int) by omega), show upI r m f t.2.1 = f by rw [em, upI_eq], er]
            exact g2
      · have none : ∀ u ∈ ties, ¬ max u.1 u.2.1 = (m : Int) := fun u hu z => ht ⟨u, hu, z⟩
        obtain ⟨g, hg⟩ := List.exists_mem_of_ne_nil _ (N _ hmw)
        obtain ⟨r0, P0⟩ := ih1
        exact ⟨fun r P => ⟨g, hg, pm_ext P hg fun u hu hum => absurd hum (none u hu)⟩, fun f hf => ⟨r0, P0, pm_ext P0 hf fun u hu hum => absurd hum (none u hu)⟩⟩
    obtain ⟨k1, k2⟩ := key
    have ec : ((m + 1 : Nat) : Int) = (m : Int) + 1 := by omega
    rw [ec]
    refine ⟨?_, fun w f h0 h1 hf => ?_⟩
    · obtain ⟨r, P⟩ := ih1
      obtain ⟨f, _, P2⟩ := k1 r P
      exact ⟨_, P2⟩
    · by_cases e : w = (m : Int)
      · subst e
        obtain ⟨r, P, P2⟩ := k2 f hf
        exact ⟨_, P2, upI_eq ..⟩
      · obtain ⟨r, P, er⟩ := ih2 w f h0 (by omega) hf
        obtain ⟨g, _, P2⟩ := k1 r P
        exact ⟨_, P2, by rw [upI_ne r g e]; exact er⟩
theorem pm_way (h : Wf words ties) (hl : LB words left) {r : Int → Int} (P : PM words ties left words.length r) : Way words ties r :=
  ⟨fun w hw => hl.2 w hw _ (P.1 w hw.1 hw.2), fun t ht => P.2 t ht (h.tie t ht).2.1 (h.tie t ht).2.2.2.1⟩
theorem lo_way (h : Wf words ties) (L : Lo words ties left rows) (N : ∀ w, InW words w → lf left w ≠ []) : ∃ r, Way words ties r := by
  obtain ⟨⟨r, P⟩, _⟩ := forest h L.arc N words.length (Nat.le_refl _)
  exact ⟨r, pm_way h L.lb P⟩
theorem lo_way2 (h : Wf words ties) (L : Lo words ties left rows) (N : ∀ w, InW words w → lf left w ≠ []) (hw : InW words w) (hf : f ∈ lf left w) : ∃ r, Way words ties r ∧ r w = f := by
  obtain ⟨_, k⟩ := forest h L.arc N words.length (Nat.le_refl _)
  obtain ⟨r, P, e⟩ := k w f hw.1 hw.2 hf
  exact ⟨r, pm_way h L.lb P, e⟩
theorem way_ne (L : Lo words ties left rows) {r : Int → Int} (W : Way words ties r) (hw : InW words w) : lf left w ≠ [] := fun z => by
  have := L.way r W w hw
  rw [z] at this
  cases this
/-! ### ways as lists -/
theorem Way.congr (h : Wf words ties) {r r' : Int → Int} (W : Way words ties r) (e : ∀ w, InW words w → r w = r' w) : Way words ties r' := by
  refine ⟨fun w hw => by rw [← e w hw]; exact W.1 w hw, fun t ht => ?_⟩
  have := W.2 t ht
  unfold agr at this ⊢
  rw [← e _ (h.tw ht (.inl rfl)), ← e _ (h.tw ht (.inr rfl))]
  exact this
def toL (n : Nat) (r : Int → Int) : List Int := (List.range n).map fun i : Nat => r i
theorem gl_toL {n : Nat} (r : Int → Int) (h0 : 0 ≤ w) (h1 : w < n) : gl (toL n r) w = r w := by
  have h : w.toNat < n := by omega
  unfold gl toL
  rw [List.getD_eq_getElem?_getD, List.getElem?_map, List.getElem?_range h]
  show r (w.toNat : Int) = r w
  congr 1; omega
theorem isWay_toL (h : Wf words ties) {r : Int → Int} (W : Way words ties r) : IsWay words ties (toL words.length r) :=
  ⟨by simp [toL], W.congr h fun w hw => (gl_toL r hw.1 hw.2).symm⟩
/-- what is chosen so far can go on -/
def Ext (words : Wd) (ties : List T3) (c : List Int) : Prop := ∃ r, Way words ties r ∧ ∀ i : Int, 0 ≤ i → i < c.length → r i = gl c i
/-! ### the kept words -/
def kept (words : Wd) (c : List Int) : Wd := (enumT 0 c).map (fun x => [fm words x.1 x.2]) ++ words.drop c.length
theorem kept_len {c : List Int} (hc : c.length ≤ words.length) : (kept words c).length = words.length := by
  unfold kept
  rw [List.length_append, List.length_map, enumT_length, List.length_drop]
  omega
theorem enumT_at {α : Type} (d : α) : ∀ (k : Nat) (xs : List α) (i : Nat), i < xs.length → (enumT k xs)[i]? = some (((k + i : Nat) : Int), xs.getD i d)
  | k, [], i, h => absurd h (by simp)
  | k, x :: xs, 0, h => rfl
  | k, x :: xs, i + 1, h => by
    show (enumT (k + 1) xs)[i]? = _
    rw [enumT_at d (k + 1) xs i (by simpa using h), List.getD_cons_succ]
    congr 3; omega
theorem kept_lo {c : List Int} (h0 : 0 ≤ w) (h1 : w < c.length) : wf (kept words c) w = [fm words w (gl c w)] := by
  have h2 : w.toNat < c.length := by omega
  unfold wf kept
  rw [List.getD_eq_getElem?_getD, List.getElem?_append_left (by rw [List.length_map, enumT_length]; exact h2), List.getElem?_map, enumT_at 0 0 c w.toNat h2]
  have e : ((0 + w.toNat : Nat) : Int) = w := by omega
  rw [e]; rfl
theorem kept_hi {c : List Int} (h1 : (c.length : Int) ≤ w) : wf (kept words c) w = wf words w := by
  unfold wf kept
  rw [List.getD_eq_getElem?_getD, List.getElem?_append_right (by rw [List.length_map, enumT_length]; omega), List.length_map, enumT_length, List.getElem?_drop, List.getD_eq_getElem?_getD]
  congr 2; omega
theorem kept_wf (h : Wf words ties) {c : List Int} (hc : c.length ≤ words.length) (hi : ∀ w : Int, 0 ≤ w → w < c.length → InF words w (gl c w)) : Wf (kept words c) ties := by
  have mem : ∀ x ∈ kept words c, (∃ w, 0 ≤ w ∧ w < (c.length : Int) ∧ x = [fm words w (gl c w)]) ∨ x ∈ words := fun x hx => by
    rcases List.mem_append.mp hx with hx | hx
    · obtain ⟨p, hp, rfl⟩ := List.mem_map.mp hx
      obtain ⟨g1, g2, g3, g4⟩ := enumT_get 0 0 c hp
      have e0 : (p.1 - ((0 : Nat) : Int)).toNat = p.1.toNat := by omega
      rw [e0] at g3
      refine .inl ⟨p.1, by omega, by omega, ?_⟩
      show [fm words p.1 p.2] = [fm words p.1 (c.getD p.1.toNat 0)]
      rw [g3]
    · exact .inr (List.mem_of_mem_drop hx)
  refine ⟨by rw [kept_len hc]; exact h.n1, fun x hx => ?_, fun x hx f hf => ?_, by rw [kept_len hc]; exact h.tie, h.tl, h.uniq⟩
  · rcases mem x hx with ⟨w, a, b, rfl⟩ | hx
    · simp
    · exact h.lens x hx
  · rcases mem x hx with ⟨w, a, b, rfl⟩ | hx
    · have e : f = fm words w (gl c w) := by simpa using hf
      subst e
      exact h.two _ (wf_mem ⟨a, by omega⟩) _ (fm_mem (hi w a b))
    · exact h.two x hx f hf
/-- ways of the kept words, and ways that go on -/
theorem kept_gv {c : List Int} (r : Int → Int) (hr : ∀ i : Int, 0 ≤ i → i < c.length → r i = gl c i) (h0 : 0 ≤ w) (k : Int) : gv (kept words c) w (if w < c.length then 0 else r w) k = gv words w (r w) k := by
  unfold gv
  congr 1
  by_cases hc : w < c.length
  · rw [if_pos hc]
    show (wf (kept words c) w).getD (0 : Int).toNat [] = _
    rw [kept_lo h0 hc, hr w h0 hc]; rfl
  · rw [if_neg hc]
    unfold fm
    rw [kept_hi (by omega)]
theorem kept_way (h : Wf words ties) {c : List Int} (hc : c.length ≤ words.length) (hi : ∀ w : Int, 0 ≤ w → w < c.length → InF words w (gl c w)) : Ext words ties c ↔ ∃ r, Way (kept words c) ties r := by
  constructor
  · rintro ⟨r, W, er⟩
    refine ⟨fun w => if w < c.length then 0 else r w, fun w hw => ?_, fun t ht => ?_⟩
    · have hw2 : InW words w := ⟨hw.1, by have := hw.2; rw [kept_len hc] at this; exact this⟩
      unfold InF
      show 0 ≤ (if w < c.length then 0 else r w) ∧ (if w < c.length then 0 else r w) < _
      by_cases hlt : w < c.length
      · rw [if_pos hlt, kept_lo hw.1 hlt]
        simp
      · rw [if_neg hlt, kept_hi (by omega)]
        exact W.1 w hw2
    · obtain ⟨a, b, c', d, _⟩ := h.tie t ht
      unfold agr
      rw [kept_gv r er a, kept_gv r er c']
      exact W.2 t ht
  · rintro ⟨r, W⟩
    let r2 : Int → Int := fun w => if w < c.length then gl c w else r w
    have e2 : ∀ i : Int, 0 ≤ i → i < c.length → r2 i = gl c i := fun i _ hi => if_pos hi
    have ek : ∀ w, InW words w → r w = (if w < c.length then 0 else r2 w) := fun w hw => by
      by_cases hlt : w < c.length
      · rw [if_pos hlt]
        have := W.1 w ⟨hw.1, by rw [kept_len hc]; exact hw.2⟩
        unfold InF at this
        rw [kept_lo hw.1 hlt] at this
        simp at this
        omega
      · rw [if_neg hlt]
        exact (if_neg hlt).symm
    refine ⟨r2, ⟨fun w hw => ?_, fun t ht => ?_⟩, e2⟩
    · by_cases hlt : w < c.length
      · rw [e2 w hw.1 hlt]; exact hi w hw.1 hlt
      · have := W.1 w ⟨hw.1, by rw [kept_len hc]; exact hw.2⟩
        unfold InF at this ⊢
        rw [kept_hi (by omega)] at this
        show 0 ≤ (if w < c.length then gl c w else r w) ∧ (if w < c.length then gl c w else r w) < _
        rw [if_neg hlt]
        exact this
    · obtain ⟨a, b, c', d, _⟩ := h.tie t ht
      have := W.2 t ht
      unfold agr at this ⊢
      rw [ek _ (h.tw ht (.inl rfl)), ek _ (h.tw ht (.inr rfl)), kept_gv r2 e2 a, kept_gv r2 e2 c'] at this
      exact this
theorem all_len (l : List (List Int)) : (l.map (fun x9 => (decide ((0 : Int) < ((x9.length : Nat) : Int))))).all id = true ↔ ∀ x ∈ l, x ≠ [] := by
  rw [List.all_map, List.all_eq_true]
  constructor
  · intro h x hx e
    have := h x hx
    subst e
    simp at this
  · intro h x hx
    have := List.length_pos_iff.mpr (h x hx)
    simp only [Function.comp, id, decide_eq_true_eq]
    omega
theorem all_lf (hl : left.length = words.length) : (∀ x ∈ left, x ≠ []) ↔ ∀ w, InW words w → lf left w ≠ [] := by
  constructor
  · intro h w hw
    exact h _ (getD_mem [] (by have := hw.1; have := hw.2; omega))
  · intro h x hx
    obtain ⟨i, hi, rfl⟩ := List.mem_iff_getElem.mp hx
    have := h (i : Int) ⟨by omega, by omega⟩
    unfold lf at this
    rw [List.getD_eq_getElem?_getD, Int.toNat_natCast, List.getElem?_eq_getElem hi] at this
    exact this
theorem rt_fits_on (h : Wf words ties) {c : List Int} (hc : c.length ≤ words.length) (hi : ∀ w : Int, 0 ≤ w → w < c.length → InF words w (gl c w)) : Rt (t_fits_on words ties c) fun b => b = true ↔ Ext words ties c := by
  have hn := h.n1
  unfold t_fits_on
  rw [lcM_all (f' := fun x => [fm words x.1 x.2]) fun x hx => ?_, M.bind_ret, cutD_drop, catM_ret (by rw [List.length_map, enumT_length, List.length_drop]; omega), M.bind_ret]
  · show Rt (t_left_out (kept words c) ties >>= _) _
    have hk := kept_wf h hc hi
    refine (rt_left_out hk).bind fun p L => Rt.ret ?_
    rw [all_len, all_lf L.lb.1, kept_way h hc hi]
    constructor
    · exact fun N => lo_way hk L N
    · rintro ⟨r, W⟩ w hw
      exact way_ne L W hw
  · obtain ⟨g1, g2, g3, g4⟩ := enumT_get 0 0 c hx
    have e0 : (x.1 - ((0 : Nat) : Int)).toNat = x.1.toNat := by omega
    rw [e0] at g3
    have hf := hi x.1 (by omega) (by omega)
    have e : gl c x.1 = x.2 := g3
    rw [e] at hf
    rw [ixW ⟨by omega, by omega⟩, M.bind_ret, ixF hf, M.bind_ret]
end
end K74

set_option Elab.async false
set_option linter.all false
set_option maxRecDepth 100000
set_option maxHeartbeats 2000000
namespace K74
open PySem PySem.Spec L2 DL
/-! ### the order of rows -/
def lexLt : List Int → List Int → Prop
  | a :: as, b :: bs => a < b ∨ (a = b ∧ lexLt as bs)
  | _, _ => False
def lexLe : List Int → List Int → Prop
  | a :: as, b :: bs => a < b ∨ (a = b ∧ lexLe as bs)
  | _, _ => True
theorem lexLt.le : ∀ {a b : List Int}, lexLt a b → lexLe a b
  | [], _, h => h.elim
  | _ :: _, [], h => h.elim
  | x :: a, y :: b, h => by
    rcases h with h | ⟨h1, h2⟩
    · exact .inl h
    · exact .inr ⟨h1, h2.le⟩
theorem lexLt.ne : ∀ {a b : List Int}, lexLt a b → a ≠ b
  | [], _, h, _ => h.elim
  | _ :: _, [], h, _ => h.elim
  | x :: a, y :: b, h, e => by
    cases e
    rcases h with h | ⟨h1, h2⟩
    · exact absurd h (by omega)
    · exact h2.ne rfl
theorem lexLe.refl : ∀ a : List Int, lexLe a a
  | [] => trivial
  | x :: a => .inr ⟨rfl, lexLe.refl a⟩
theorem lexLe.anti : ∀ {a b : List Int}, a.length = b.length → lexLe a b → lexLe b a → a = b
  | [], [], _, _, _ => rfl
  | [], _ :: _, h, _, _ => by simp at h
  | _ :: _, [], h, _, _ => by simp at h
  | x :: a, y :: b, h, h1, h2 => by
    rcases h1 with h1 | ⟨e, h1⟩
    · rcases h2 with h2 | ⟨e2, h2⟩ <;> omega
    · subst e
      rcases h2 with h2 | ⟨e2, h2⟩
      · omega
      · rw [lexLe.anti (by simpa using h) h1 h2]
theorem lexLe.snoc : ∀ {a b : List Int} {x y : Int}, a.length = b.length → lexLe a b → (a = b → x ≤ y) → lexLe (a ++ [x]) (b ++ [y])
  | [], [], x, y, _, _, h => by
    have := h rfl
    show x < y ∨ (x = y ∧ True)
    by_cases e : x = y
    · exact .inr ⟨e, trivial⟩
    · exact .inl (by omega)
  | [], _ :: _, _, _, h, _, _ => by simp at h
  | _ :: _, [], _, _, h, _, _ => by simp at h
  | z :: a, u :: b, x, y, h, h1, h2 => by
    rcases h1 with h1 | ⟨e, h1⟩
    · exact .inl h1
    · subst e
      exact .inr ⟨rfl, h1.snoc (by simpa using h) fun e => h2 (by rw [e])⟩
theorem lexLt.app : ∀ {a b : List Int} (x y : List Int), a.length = b.length → lexLt a b → lexLt (a ++ x) (b ++ y)
  | [], _, _, _, _, h => h.elim
  | _ :: _, [], _, _, _, h => h.elim
  | z :: a, u :: b, x, y, h, h1 => by
    rcases h1 with h1 | ⟨e, h1⟩
    · exact .inl h1
    · exact .inr ⟨e, h1.app x y (by simpa using h)⟩
theorem lexLt.last : ∀ (a : List Int) {x y : Int}, x < y → lexLt (a ++ [x]) (a ++ [y])
  | [], _, _, h => .inl h
  | z :: a, _, _, h => .inr ⟨rfl, lexLt.last a h⟩
section
variable {words : Wd} {ties : List T3} {left : List (List Int)} {rows : List T3} {w f : Int} {t : T3}
theorem gl_app_l {c : List Int} (x : Int) (h0 : 0 ≤ w) (h1 : w < c.length) : gl (c ++ [x]) w = gl c w := by
  unfold gl
  rw [List.getD_eq_getElem?_getD, List.getElem?_append_left (by omega), ← List.getD_eq_getElem?_getD]
theorem gl_app_r (c : List Int) (x : Int) : gl (c ++ [x]) (c.length : Int) = x := by
  unfold gl
  rw [List.getD_eq_getElem?_getD, Int.toNat_natCast, List.getElem?_append_right (Nat.le_refl _), Nat.sub_self]; rfl
theorem take_succ_gl {r : List Int} {k : Nat} (h : k < r.length) : r.take (k + 1) = r.take k ++ [gl r k] := by
  rw [List.take_succ, List.getElem?_eq_getElem h]
  unfold gl
  rw [List.getD_eq_getElem?_getD, Int.toNat_natCast, List.getElem?_eq_getElem h]; rfl
theorem gl_take {r : List Int} {k : Nat} (h0 : 0 ≤ w) (h1 : w < k) : gl (r.take k) w = gl r w := by
  unfold gl
  rw [List.getD_eq_getElem?_getD, List.getElem?_take_of_lt (by omega), ← List.getD_eq_getElem?_getD]
/-! ### the least forms -/
structure Chs (words : Wd) (ties : List T3) (k : Nat) (c : List Int) : Prop where
  len : c.length = k
  ext : Ext words ties c
  least : ∀ r, IsWay words ties r → lexLe c (r.take k)
theorem rt_inner (h : Wf words ties) (L : Lo words ties left rows) {k : Nat} (hk : k < words.length) {c : List Int} (C : Chs words ties k c) : ∀ (xs pre : List Int), lf left k = pre ++ xs → (∀ y ∈ pre, ¬ Ext words ties (c ++ [y])) →
    Rt (loopR (fun (x9 : Int) (s10 : List Int) => ((((catM s10 [x9]) >>= fun v11 => (t_fits_on words ties v11)) >>= fun v12 => .ret v12) >>= fun kb => if kb then appM s10 x9 >>= fun chosen_v13 => .ret (.brk chosen_v13) else (.ret (.go s10) : M (Fw (List Int) D)))) xs c) fun o => ∃ c', o = .go c' ∧ Chs words ties (k + 1) c'
  | [], pre, e, hp => by
    exfalso
    obtain ⟨r, W, er⟩ := C.ext
    have hw : InW words (k : Int) := ⟨by omega, by omega⟩
    have hm := L.way r W k hw
    rw [e, List.append_nil] at hm
    refine hp _ hm ⟨r, W, fun i h0 h1 => ?_⟩
    rw [List.length_append, C.len] at h1
    simp only [List.length_singleton] at h1
    by_cases hi : i < (k : Int)
    · rw [gl_app_l _ h0 (by rw [C.len]; exact hi)]
      exact er i h0 (by rw [C.len]; exact hi)
    · have e1 : i = (k : Int) := by omega
      subst e1
      have := gl_app_r c (r k)
      rw [C.len] at this
      exact this.symm
  | x :: xs, pre, e, hp => by
    have hn := h.n1
    have hw : InW words (k : Int) := ⟨by omega, by omega⟩
    have hx : x ∈ lf left k := by rw [e]; simp
    have hlen : (c ++ [x]).length = k + 1 := by rw [List.length_append, C.len]; rfl
    have hin : ∀ w : Int, 0 ≤ w → w < (c ++ [x]).length → InF words w (gl (c ++ [x]) w) := fun w h0 h1 => by
      rw [hlen] at h1
      by_cases hi : w < (k : Int)
      · rw [gl_app_l _ h0 (by rw [C.len]; exact hi)]
        obtain ⟨r, W, er⟩ := C.ext
        rw [← er w h0 (by rw [C.len]; exact hi)]
        exact W.1 w ⟨h0, by omega⟩
      · have e1 : w = (k : Int) := by omega
        subst e1
        have := gl_app_r c x
        rw [C.len] at this
        rw [this]
        exact L.lb.2 _ hw x hx
    unfold loopR
    rw [catM_ret (by rw [C.len]; simp; omega), M.bind_ret]
    obtain ⟨b, eb, hb⟩ := rt_fits_on h (c := c ++ [x]) (by rw [hlen]; omega) hin
    rw [eb, M.bind_ret, M.bind_ret]
    cases b with
    | true =>
      simp only [if_true]
      rw [appM_ret (by rw [C.len]; omega), M.bind_ret, M.bind_ret]
      refine Rt.ret ⟨_, rfl, hlen, hb.mp rfl, fun r hr => ?_⟩
      have hkr : k < r.length := by rw [hr.1]; exact hk
      rw [take_succ_gl hkr]
      refine (C.least r hr).snoc (by rw [C.len, List.length_take]; omega) fun ec => ?_
      have hm := L.way (gl r) hr.2 k hw
      have hx2 : Ext words ties (c ++ [gl r k]) := ⟨gl r, hr.2, fun i h0 h1 => by
        rw [List.length_append, C.len] at h1
        simp only [List.length_singleton] at h1
        by_cases hi : i < (k : Int)
        · rw [gl_app_l _ h0 (by rw [C.len]; exact hi), ec, gl_take h0 hi]
        · have e1 : i = (k : Int) := by omega
          subst e1
          have := gl_app_r c (gl r k)
          rw [C.len] at this
          exact this.symm⟩
      have hs := L.up k hw
      rw [e] at hm hs
      rcases List.mem_append.mp hm with hm | hm
      · exact absurd hx2 (hp _ hm)
      · rcases List.mem_cons.mp hm with hm | hm
        · omega
        · have := (List.pairwise_cons.mp (List.pairwise_append.mp hs).2.1).1 _ hm
          omega
    | false =>
      simp only [Bool.false_eq_true, if_false, M.bind_ret]
      refine rt_inner h L hk C xs (pre ++ [x]) (by rw [e, List.append_assoc]; rfl) fun y hy => ?_
      rcases List.mem_append.mp hy with hy | hy
      · exact hp y hy
      · have e2 : y = x := by simpa using hy
        subst e2
        exact fun z => absurd (hb.mpr z) (by simp)
/-- a loop that goes on -/
theorem rt_loopG {α σ ρ : Type} {f : α → σ → M (Fw σ ρ)} (I : List α → σ → Prop) {all : List α} : ∀ (xs pre : List α) (s : σ), all = pre ++ xs → (∀ pre x suf, all = pre ++ x :: suf → ∀ s, I pre s → Rt (f x s) fun o => ∃ s', o = .go s' ∧ I (pre ++ [x]) s') → I pre s → Rt (loopR f xs s) fun o => ∃ s', o = .go s' ∧ I all s'
  | [], pre, s, e, _, h => Rt.ret ⟨s, rfl, by rw [e, List.append_nil]; exact h⟩
  | x :: xs, pre, s, e, hf, h => by
    unfold loopR
    refine (hf pre x xs e s h).bind fun o ⟨s', eo, h'⟩ => ?_
    subst eo
    exact rt_loopG I xs (pre ++ [x]) s' (by rw [e, List.append_assoc]; rfl) hf h'
theorem range_split {n : Nat} {pre suf : List Int} {x : Int} (e : (List.range n).map (fun i : Nat => (i : Int)) = pre ++ x :: suf) : x = pre.length ∧ pre.length < n := by
  have hl := congrArg List.length e
  rw [List.length_map, List.length_range, List.length_append, List.length_cons] at hl
  have hlt : pre.length < n := by omega
  refine ⟨?_, hlt⟩
  have h1 := congrArg (fun l => l[pre.length]?) e
  simp only [List.getElem?_map, List.getElem?_range hlt, List.getElem?_append_right (Nat.le_refl _), Nat.sub_self, List.getElem?_cons_zero] at h1
  exact (Option.some.inj h1).symm
inductive Told (words : Wd) (ties : List T3) : D → Prop where
  | never (rows : List T3) (no : ¬ ∃ r, Way words ties r) (ok : faultN words ties rows = eN ()) (few : rows.length ≤ 900) : Told words ties (toldN rows)
  | forms (row : List Int) (way : IsWay words ties row) (least : ∀ r, IsWay words ties r → lexLe row r) : Told words ties (toldF row)
theorem lo_small (L : Lo words ties left rows) : True := trivial
theorem rt_agreed (h : Wf words ties) : Rt (t_agreed words ties) (Told words ties) := by
  have hn := h.n1
  unfold t_agreed
  refine (rt_left_out h).bind fun p L => ?_
  obtain ⟨left, rows⟩ := p
  have L : Lo words ties left rows := L
  rw [rgM_nat (by omega), M.bind_ret, lcM_fil (c' := fun w => (lf left w).isEmpty) fun x hx => ?_, M.bind_ret]
  · by_cases N : ∀ w, InW words w → lf left w ≠ []
    · have ee : ((List.range words.length).map (fun i : Nat => (i : Int))).filter (fun w => (lf left w).isEmpty) = [] := by
        rw [List.filter_eq_nil_iff]
        intro w hw
        obtain ⟨i, hi, rfl⟩ := List.mem_map.mp hw
        have hi := List.mem_range.mp hi
        have := N i ⟨by omega, by omega⟩
        simpa using this
      rw [ee]
      simp only [List.isEmpty_nil, Bool.not_true, Bool.false_eq_true, if_false, M.bind_ret]
      refine Rt.bind (rt_loopG (I := fun pre c => Chs words ties pre.length c) _ [] _ rfl (fun pre x suf e s C => ?_) ⟨rfl, ?_, fun r hr => trivial⟩) fun o ⟨c, eo, C⟩ => ?_
      · obtain ⟨ex, hlt⟩ := range_split e
        subst ex
        rw [L.lb.ix ⟨by omega, by omega⟩, M.bind_ret]
        refine (rt_inner h L hlt C _ [] rfl (fun y hy => absurd hy (by simp))).bind fun o ⟨c', eo, C'⟩ => ?_
        subst eo
        refine Rt.ret ⟨c', rfl, ?_⟩
        rw [List.length_append]
        exact C'
      · obtain ⟨r, W⟩ := lo_way h L N
        exact ⟨r, W, fun i h0 h1 => absurd h1 (by simp; omega)⟩
      · subst eo
        refine Rt.ret ?_
        rw [List.nil_append, List.length_map, List.length_range] at C
        refine .forms c ?_ fun r hr => ?_
        · obtain ⟨r, W, er⟩ := C.ext
          exact ⟨C.len, W.congr h fun w hw => er w hw.1 (by rw [C.len]; exact hw.2)⟩
        · have := C.least r hr
          rwa [List.take_of_length_le (by rw [hr.1]; exact Nat.le_refl _)] at this
    · obtain ⟨w, hw⟩ := Classical.not_forall.mp N
      obtain ⟨hw, he⟩ := Classical.not_imp.mp hw
      have he : lf left w = [] := Classical.not_not.mp he
      have hm : w ∈ ((List.range words.length).map (fun i : Nat => (i : Int))).filter (fun w => (lf left w).isEmpty) := by
        refine List.mem_filter.mpr ⟨List.mem_map.mpr ⟨w.toNat, List.mem_range.mpr (by have := hw.1; have := hw.2; omega), by have := hw.1; omega⟩, ?_⟩
        rw [he]; rfl
      have ne : (((List.range words.length).map (fun i : Nat => (i : Int))).filter (fun w => (lf left w).isEmpty)).isEmpty = false := by
        cases hq : ((List.range words.length).map (fun i : Nat => (i : Int))).filter (fun w => (lf left w).isEmpty) with
        | nil => rw [hq] at hm; cases hm
        | cons a as => rfl
      rw [ne]
      simp only [Bool.not_false, if_true]
      refine Rt.ret (.never rows ?_ ?_ ?_)
      · rintro ⟨r, W⟩
        exact way_ne L W hw he
      · unfold faultN
        rw [L.run]
        have : ((left.map (fun x50 => (decide (((x50.length : Nat) : Int) = (0 : Int))))).any id) = true := by
          rw [List.any_map, List.any_eq_true]
          refine ⟨lf left w, getD_mem [] (by rw [L.lb.1]; have := hw.1; have := hw.2; omega), ?_⟩
          rw [he]; rfl
        show (if _ then _ else _) = _
        rw [if_pos this]
      · exact L.small
  · obtain ⟨i, hi, rfl⟩ := List.mem_map.mp hx
    have hi := List.mem_range.mp hi
    rw [L.lb.ix ⟨by omega, by omega⟩, M.bind_ret, M.bind_ret, Bool.not_not]
end
end K74

set_option Elab.async false
set_option linter.all false
set_option maxRecDepth 100000
set_option maxHeartbeats 2000000
namespace K74
open PySem PySem.Spec L2 DL
section
variable {words : Wd} {ties : List T3} {left : List (List Int)} {rows : List T3} {w f : Int} {t : T3}
/-! ### all rows -/
def OkRow (ws : Wd) (r : List Int) : Prop := r.length = ws.length ∧ ∀ w, InW ws w → InF ws w (gl r w)
def rng (n : Nat) : List Int := (List.range n).map fun i : Nat => (i : Int)
theorem rng_mem {n : Nat} {i : Int} : i ∈ rng n ↔ 0 ≤ i ∧ i < n := by
  unfold rng
  rw [List.mem_map]
  constructor
  · rintro ⟨k, hk, rfl⟩
    have := List.mem_range.mp hk
    omega
  · rintro ⟨h0, h1⟩
    exact ⟨i.toNat, List.mem_range.mpr (by omega), by omega⟩
theorem rng_pw (n : Nat) : (rng n).Pairwise (· < ·) := by
  unfold rng
  rw [List.pairwise_map]
  exact (List.pairwise_lt_range).imp fun h => by omega
theorem wf_snoc_l {pre : Wd} (x : List (List Int)) (h0 : 0 ≤ w) (h1 : w < pre.length) : wf (pre ++ [x]) w = wf pre w := by
  unfold wf
  rw [List.getD_eq_getElem?_getD, List.getElem?_append_left (by omega), ← List.getD_eq_getElem?_getD]
theorem wf_snoc_r (pre : Wd) (x : List (List Int)) : wf (pre ++ [x]) (pre.length : Int) = x := by
  unfold wf
  rw [List.getD_eq_getElem?_getD, Int.toNat_natCast, List.getElem?_append_right (Nat.le_refl _), Nat.sub_self]; rfl
theorem okRow_snoc {pre : Wd} {x : List (List Int)} {r : List Int} : OkRow (pre ++ [x]) r ↔ ∃ (r' : List Int) (i : Int), r = r' ++ [i] ∧ OkRow pre r' ∧ 0 ≤ i ∧ i < x.length := by
  constructor
  · rintro ⟨hl, hi⟩
    rw [List.length_append] at hl
    have hne : r ≠ [] := fun e => by subst e; simp at hl
    have er := (List.dropLast_concat_getLast hne).symm
    have hl2 : r.dropLast.length = pre.length := by rw [List.length_dropLast, hl]; simp
    refine ⟨r.dropLast, r.getLast hne, er, ⟨hl2, fun w hw => ?_⟩, ?_⟩
    · have := hi w ⟨hw.1, by rw [List.length_append]; have := hw.2; simp; omega⟩
      rw [er, gl_app_l _ hw.1 (by rw [hl2]; exact hw.2)] at this
      unfold InF at this ⊢
      rw [wf_snoc_l x hw.1 hw.2] at this
      exact this
    · have := hi (pre.length : Int) ⟨by omega, by rw [List.length_append]; simp; omega⟩
      rw [er] at this
      unfold InF at this
      rw [wf_snoc_r] at this
      have e := gl_app_r r.dropLast (r.getLast hne)
      rw [hl2] at e
      rw [e] at this
      exact this
  · rintro ⟨r', i, rfl, ⟨hl, hi⟩, h0, h1⟩
    refine ⟨by rw [List.length_append, List.length_append, hl]; rfl, fun w hw => ?_⟩
    have hw2 := hw.2
    rw [List.length_append] at hw2
    simp only [List.length_singleton] at hw2
    unfold InF
    by_cases e : w < (pre.length : Int)
    · rw [gl_app_l _ hw.1 (by rw [hl]; exact e), wf_snoc_l x hw.1 e]
      exact hi w ⟨hw.1, e⟩
    · have e1 : w = (pre.length : Int) := by have := hw.1; omega
      subst e1
      have e2 := gl_app_r r' i
      rw [hl] at e2
      rw [e2, wf_snoc_r]
      exact ⟨h0, h1⟩
/-- rows that pass, of words so far -/
structure Rws (P : Wd → List Int → Prop) (pre : Wd) (s : List (List Int)) : Prop where
  few : s.length ≤ 4 ^ pre.length
  pw : s.Pairwise lexLt
  mem : ∀ r, r ∈ s ↔ OkRow pre r ∧ P pre r
def stepR (n : Nat) (fil : List Int → Int → Bool) (s : List (List Int)) : List (List Int) := s.flatMap fun r => ((rng n).filter (fil r)).map fun i => r ++ [i]
theorem rws_step {P : Wd → List Int → Prop} {pre : Wd} {x : List (List Int)} {s : List (List Int)} {fil : List Int → Int → Bool} (hx : x.length ≤ 4) (R : Rws P pre s)
    (hf : ∀ r ∈ s, ∀ i : Int, 0 ≤ i → i < x.length → (fil r i = true ↔ P (pre ++ [x]) (r ++ [i]))) (hd : ∀ (r : List Int) (i : Int), OkRow pre r → P (pre ++ [x]) (r ++ [i]) → P pre r) : Rws P (pre ++ [x]) (stepR x.length fil s) := by
  refine ⟨?_, ?_, fun r => ?_⟩
  · have gen : ∀ l : List (List Int), (stepR x.length fil l).length ≤ l.length * 4 := by
      intro l
      induction l with
      | nil => simp [stepR]
      | cons y ys ih =>
        unfold stepR at ih ⊢
        rw [List.flatMap_cons, List.length_append, List.length_cons, List.length_map]
        have := List.length_filter_le (fil y) (rng x.length)
        have e : (rng x.length).length = x.length := by simp [rng]
        omega
    have := gen s
    have := R.few
    rw [List.length_append, List.length_singleton, Nat.pow_succ]
    omega
  · unfold stepR
    rw [List.pairwise_flatMap]
    refine ⟨fun r hr => ?_, ?_⟩
    · rw [List.pairwise_map]
      exact ((rng_pw _).sublist List.filter_sublist).imp fun h => lexLt.last r h
    · refine R.pw.imp_of_mem fun {a b} ha hb h u hu v hv => ?_
      obtain ⟨i, _, rfl⟩ := List.mem_map.mp hu
      obtain ⟨j, _, rfl⟩ := List.mem_map.mp hv
      exact h.app _ _ (by rw [((R.mem a).mp ha).1.1, ((R.mem b).mp hb).1.1])
  · unfold stepR
    rw [List.mem_flatMap, okRow_snoc]
    constructor
    · rintro ⟨a, ha, hr⟩
      obtain ⟨i, hi, rfl⟩ := List.mem_map.mp hr
      obtain ⟨h1, h2⟩ := List.mem_filter.mp hi
      obtain ⟨i0, i1⟩ := rng_mem.mp h1
      exact ⟨⟨a, i, rfl, ((R.mem a).mp ha).1, i0, i1⟩, (hf a ha i i0 i1).mp h2⟩
    · rintro ⟨⟨a, i, rfl, ok, i0, i1⟩, hp⟩
      have ha := (R.mem a).mpr ⟨ok, hd a i ok hp⟩
      exact ⟨a, ha, List.mem_map.mpr ⟨i, List.mem_filter.mpr ⟨rng_mem.mpr ⟨i0, i1⟩, (hf a ha i i0 i1).mpr hp⟩, rfl⟩⟩
theorem rws_nil {P : Wd → List Int → Prop} (h : P [] []) : Rws P [] [[]] :=
  ⟨by simp, by simp, fun r => by
    rw [List.mem_singleton]
    constructor
    · rintro rfl
      exact ⟨⟨rfl, fun w hw => absurd hw.2 (by have := hw.1; simp; omega)⟩, h⟩
    · rintro ⟨⟨hl, _⟩, _⟩
      exact List.length_eq_zero_iff.mp (by simpa using hl)⟩
theorem rws_bound {P : Wd → List Int → Prop} {pre : Wd} {s : List (List Int)} (R : Rws P pre s) (h : pre.length ≤ 4) : s.length ≤ 256 := by
  have := R.few
  have : 4 ^ pre.length ≤ 4 ^ 4 := Nat.pow_le_pow_right (by omega) h
  omega
/-! ### law_ways -/
def wbody (x : List (List Int)) (x5 : List Int) (s6 : List (List Int)) : M (List (List Int)) := (((rgM 0 ((x.length : Nat) : Int)) >>= fun v8 => (lcM (fun x7 => (M.ret true)) (fun x7 => (catM x5 [x7]))) v8) >>= fun v10 => catM s6 v10 >>= fun more_v9 => (.ret more_v9 : M (List (List Int))))
theorem wbody_ret {x : List (List Int)} (hx : x.length ≤ 4) {y : List Int} {acc : List (List Int)} (h1 : y.length ≤ 4) (hb : acc.length + 4 ≤ 10000) : wbody x y acc = .ret (acc ++ (rng x.length).map fun i => y ++ [i]) := by
  have el : (rng x.length).length = x.length := by simp [rng]
  unfold wbody
  rw [rgM_nat (by omega), M.bind_ret]
  rw [lcM_all (f' := fun i => y ++ [i]) fun i _ => catM_ret (by simp; omega), M.bind_ret]
  show (catM acc ((rng x.length).map fun i => y ++ [i]) >>= _) = _
  rw [catM_ret (by rw [List.length_map, el]; omega), M.bind_ret]
theorem ways_inner {x : List (List Int)} (hx : x.length ≤ 4) : ∀ (xs acc : List (List Int)), (∀ r ∈ xs, r.length ≤ 4) → acc.length + xs.length * 4 ≤ 10000 →
    loopM (wbody x) xs acc = .ret (acc ++ stepR x.length (fun _ _ => true) xs)
  | [], acc, _, _ => by simp [loopM, stepR]
  | y :: ys, acc, hl, hb => by
    have h1 := hl y List.mem_cons_self
    simp only [List.length_cons] at hb
    have ef : (rng x.length).filter (fun _ => true) = rng x.length := List.filter_eq_self.mpr fun _ _ => rfl
    have el : (rng x.length).length = x.length := by simp [rng]
    unfold loopM
    rw [wbody_ret hx h1 (by omega), M.bind_ret, ways_inner hx ys _ (fun r hr => hl r (List.mem_cons_of_mem _ hr)) (by rw [List.length_append, List.length_map, el]; omega)]
    unfold stepR
    rw [List.flatMap_cons, ef, List.append_assoc]
theorem okRow_len {pre : Wd} {r : List Int} (h : OkRow pre r) (hp : pre.length ≤ 4) : r.length ≤ 4 := by rw [h.1]; exact hp
theorem isWay_iff {r : List Int} : IsWay words ties r ↔ OkRow words r ∧ ∀ t ∈ ties, agr words (gl r) t := ⟨fun ⟨a, b, c⟩ => ⟨⟨a, b⟩, c⟩, fun ⟨⟨a, b⟩, c⟩ => ⟨a, b, c⟩⟩
structure Ways (words : Wd) (ties : List T3) (ways : List (List Int)) : Prop where
  few : ways.length ≤ 256
  pw : ways.Pairwise lexLt
  mem : ∀ r, r ∈ ways ↔ IsWay words ties r
theorem prefix_wf {pre suf : Wd} (e : words = pre ++ suf) (h0 : 0 ≤ w) (h1 : w < pre.length) : wf words w = wf pre w := by
  unfold wf
  rw [e, List.getD_eq_getElem?_getD, List.getElem?_append_left (by omega), ← List.getD_eq_getElem?_getD]
/-! ### count_agreed -/
def PreOk (words : Wd) (ties : List T3) (pre : Wd) (r : List Int) : Prop := ∀ t ∈ ties, t.1 < pre.length → t.2.1 < pre.length → agr words (gl r) t
def agrs (words : Wd) (r : List Int) (t : T3) : Bool := (decide (((r.length : Nat) : Int) ≤ t.1) || decide (((r.length : Nat) : Int) ≤ t.2.1)) || decide (agr words (gl r) t)
theorem agrees_ret (h : Wf words ties) {r : List Int} (hr : r.length ≤ words.length) (hi : ∀ w : Int, 0 ≤ w → w < r.length → InF words w (gl r w)) (ht : t ∈ ties) : t_agrees words r t = .ret (agrs words r t) := by
  obtain ⟨a, b, c, d, e, k0, k2⟩ := h.tie t ht
  have h1 : InW words t.1 := ⟨a, b⟩
  have h2 : InW words t.2.1 := ⟨c, d⟩
  unfold t_agrees agrs
  rw [M.bind_ret]
  cases hb : (decide (((r.length : Nat) : Int) ≤ t.1) || decide (((r.length : Nat) : Int) ≤ t.2.1)) with
  | true => simp
  | false =>
    simp only [Bool.or_eq_false_iff, decide_eq_false_iff_not] at hb
    have i1 := hi t.1 a (by omega)
    have i2 := hi t.2.1 c (by omega)
    have r1 : ixM r t.1 = .ret (gl r t.1) := ixM_ret 0 a (by omega)
    have r2 : ixM r t.2.1 = .ret (gl r t.2.1) := ixM_ret 0 c (by omega)
    simp only [Bool.false_eq_true, if_false, Bool.false_or]
    rw [ixW h1, M.bind_ret, r1, M.bind_ret, ixF i1, M.bind_ret, h.ixT h1 i1 k0 k2, M.bind_ret]
    rw [ixW h2, M.bind_ret, r2, M.bind_ret, ixF i2, M.bind_ret, h.ixT h2 i2 k0 k2, M.bind_ret]
    rfl
def filC (words : Wd) (ties : List T3) (r : List Int) (i : Int) : Bool := ties.all fun t => agrs words (r ++ [i]) t
theorem agr_congr {r r' : Int → Int} (e1 : r t.1 = r' t.1) (e2 : r t.2.1 = r' t.2.1) : agr words r t ↔ agr words r' t := by unfold agr; rw [e1, e2]
def cform (words : Wd) (ties : List T3) (y : List Int) (x7 : Int) (s8 : List (List Int)) : M (List (List Int)) := ((((((lcM (fun x9 => (M.ret true)) (fun x9 => ((catM y [x7]) >>= fun v10 => (t_agrees words v10 x9)))) ties) >>= fun v11 => .ret (v11.all id)) >>= fun v12 => .ret v12) >>= fun kb => if kb then (catM y [x7]) >>= fun v14 => appM s8 v14 >>= fun more_v13 => .ret more_v13 else .ret s8) : M (List (List Int))) >>= fun s15 => .ret s15
theorem count_form (h : Wf words ties) {pre : Wd} {x : List (List Int)} {suf : Wd} (e : words = pre ++ x :: suf) {y : List Int} (ok : OkRow pre y) : ∀ (is : List Int) (acc : List (List Int)), (∀ i ∈ is, 0 ≤ i ∧ i < x.length) → acc.length + is.length ≤ 20000 →
    loopM (cform words ties y) is acc = .ret (acc ++ (is.filter (filC words ties y)).map fun i => y ++ [i])
  | [], acc, _, _ => by simp [loopM]
  | i :: is, acc, hi, hb => by
    obtain ⟨i0, i1⟩ := hi i List.mem_cons_self
    have hpl : pre.length < words.length := by rw [e]; simp
    have hn := h.n1
    have hyl := ok.1
    simp only [List.length_cons] at hb
    have ew : words = (pre ++ [x]) ++ suf := by rw [e, List.append_assoc]; rfl
    have ok2 : OkRow (pre ++ [x]) (y ++ [i]) := okRow_snoc.mpr ⟨y, i, rfl, ok, i0, i1⟩
    have hl2 : (y ++ [i]).length = pre.length + 1 := by rw [List.length_append, hyl]; rfl
    have hin : ∀ w : Int, 0 ≤ w → w < (y ++ [i]).length → InF words w (gl (y ++ [i]) w) := fun w h0 h1 => by
      have hw : InW (pre ++ [x]) w := ⟨h0, by rw [← ok2.1]; exact h1⟩
      have := ok2.2 w hw
      unfold InF at this ⊢
      rw [prefix_wf ew h0 hw.2]
      exact this
    have eb : cform words ties y i acc = .ret (if filC words ties y i then acc ++ [y ++ [i]] else acc) := by
      unfold cform
      rw [lcM_all (f' := fun t => agrs words (y ++ [i]) t) fun t ht => by rw [catM_ret (by rw [hyl]; simp; omega), M.bind_ret]; exact agrees_ret h (by rw [hl2]; omega) hin ht]
      rw [M.bind_ret, M.bind_ret, M.bind_ret]
      have ea : (ties.map fun t => agrs words (y ++ [i]) t).all id = filC words ties y i := by rw [List.all_map]; rfl
      rw [ea]
      cases filC words ties y i with
      | true =>
        simp only [if_true]
        rw [catM_ret (by rw [hyl]; simp; omega), M.bind_ret, appM_ret (by omega), M.bind_ret, M.bind_ret]
      | false => rfl
    unfold loopM
    rw [eb, M.bind_ret, List.filter_cons]
    cases filC words ties y i with
    | true =>
      simp only [if_true]
      rw [count_form h e ok is _ (fun j hj => hi j (List.mem_cons_of_mem _ hj)) (by simp; omega)]
      rw [List.map_cons, List.append_assoc]; rfl
    | false =>
      simp only [Bool.false_eq_true, if_false]
      exact count_form h e ok is acc (fun j hj => hi j (List.mem_cons_of_mem _ hj)) (by omega)
def crow (words : Wd) (ties : List T3) (x : List (List Int)) (x5 : List Int) (s6 : List (List Int)) : M (List (List Int)) := (((rgM 0 ((x.length : Nat) : Int)) >>= fun v16 => loopM (fun x7 s8 => cform words ties x5 x7 s8) v16 s6) : M (List (List Int))) >>= fun s17 => .ret s17
theorem count_inner (h : Wf words ties) {pre : Wd} {x : List (List Int)} {suf : Wd} (e : words = pre ++ x :: suf) : ∀ (xs acc : List (List Int)), (∀ r ∈ xs, OkRow pre r) → acc.length + xs.length * 4 ≤ 10000 →
    loopM (crow words ties x) xs acc = .ret (acc ++ stepR x.length (filC words ties) xs)
  | [], acc, _, _ => by simp [loopM, stepR]
  | y :: ys, acc, hl, hb => by
    have hx : x.length ≤ 4 := h.lens x (by rw [e]; simp)
    simp only [List.length_cons] at hb
    have el : (rng x.length).length = x.length := by simp [rng]
    have eb : crow words ties x y acc = .ret (acc ++ ((rng x.length).filter (filC words ties y)).map fun i => y ++ [i]) := by
      unfold crow
      rw [rgM_nat (by omega), M.bind_ret]
      show (loopM (cform words ties y) (rng x.length) acc >>= _) = _
      rw [count_form h e (hl y List.mem_cons_self) (rng x.length) acc (fun i hi => rng_mem.mp hi) (by rw [el]; omega), M.bind_ret]
    unfold loopM
    have hf := List.length_filter_le (filC words ties y) (rng x.length)
    rw [eb, M.bind_ret, count_inner h e ys _ (fun r hr => hl r (List.mem_cons_of_mem _ hr)) (by rw [List.length_append, List.length_map]; omega)]
    unfold stepR
    rw [List.flatMap_cons, List.append_assoc]
theorem filC_iff (h : Wf words ties) {pre : Wd} {x : List (List Int)} {r : List Int} {i : Int} (hl : r.length = pre.length) : filC words ties r i = true ↔ PreOk words ties (pre ++ [x]) (r ++ [i]) := by
  unfold filC PreOk agrs
  rw [List.all_eq_true]
  have e1 : (r ++ [i]).length = pre.length + 1 := by rw [List.length_append, hl]; rfl
  have e2 : (pre ++ [x]).length = pre.length + 1 := by rw [List.length_append]; rfl
  rw [e1, e2]
  constructor
  · intro z t ht a b
    have := z t ht
    simp only [Bool.or_eq_true, decide_eq_true_eq] at this
    rcases this with (q | q) | q
    · omega
    · omega
    · exact q
  · intro z t ht
    simp only [Bool.or_eq_true, decide_eq_true_eq]
    by_cases a : t.1 < ((pre.length + 1 : Nat) : Int)
    · by_cases b : t.2.1 < ((pre.length + 1 : Nat) : Int)
      · exact .inr (z t ht a b)
      · exact .inl (.inr (by omega))
    · exact .inl (.inl (by omega))
theorem rt_count (h : Wf words ties) {ways : List (List Int)} (W : Ways words ties ways) : Rt (t_count_agreed words ties) fun c => c = ((ways.length : Nat) : Int) := by
  have hn := h.n1
  unfold t_count_agreed
  rw [M.bind_ret]
  have eloop : ∀ (I : Wd → List (List Int) → Prop) (f : Int × List (List Int) → List (List Int) → M (List (List Int))) (xs pre : Wd) (k : Nat) (s : List (List Int)), words = pre ++ xs → (∀ pre x suf, words = pre ++ x :: suf → ∀ (j : Int) s, I pre s → Rt (f (j, x) s) (I (pre ++ [x]))) → I pre s → Rt (loopM f (enumT k xs) s) (I words) := by
    intro I f xs
    induction xs with
    | nil => intro pre k s e _ hi; exact Rt.ret (by rw [e, List.append_nil]; exact hi)
    | cons x xs ih =>
      intro pre k s e hf hi
      show Rt (loopM f (((k : Int), x) :: enumT (k + 1) xs) s) _
      unfold loopM
      exact (hf pre x xs e _ s hi).bind fun s' h' => ih (pre ++ [x]) (k + 1) s' (by rw [e, List.append_assoc]; rfl) hf h'
  refine Rt.bind (eloop (Rws (PreOk words ties)) _ words [] 0 [[]] rfl (fun pre x suf e j s R => ?_) (rws_nil fun t ht a b => absurd a (by have := (h.tie t ht).1; simp; omega))) fun s R => Rt.ret ?_
  · have hx : x.length ≤ 4 := h.lens x (by rw [e]; simp)
    have hp : pre.length ≤ 4 := by have := congrArg List.length e; simp at this; omega
    have hb := rws_bound R hp
    rw [M.bind_ret]
    show Rt (loopM (crow words ties x) s [] >>= _) _
    rw [count_inner h e s [] (fun r hr => ((R.mem r).mp hr).1) (by simp; omega), M.bind_ret, List.nil_append]
    refine Rt.ret (rws_step hx R (fun r hr i h0 h1 => filC_iff h ((R.mem r).mp hr).1.1) fun r i ok hp t ht a b => ?_)
    have hq := hp t ht (by rw [List.length_append]; simp; omega) (by rw [List.length_append]; simp; omega)
    obtain ⟨t0, _, t1, _⟩ := h.tie t ht
    exact (agr_congr (gl_app_l i t0 (by rw [ok.1]; exact a)) (gl_app_l i t1 (by rw [ok.1]; exact b))).mp hq
  · have pm : s.Perm ways := (List.perm_ext_iff_of_nodup (R.pw.imp fun h => h.ne) (W.pw.imp fun h => h.ne)).mpr fun r => by
      rw [R.mem, W.mem, isWay_iff]
      constructor
      · rintro ⟨a, b⟩
        exact ⟨a, fun t ht => b t ht (h.tie t ht).2.1 (h.tie t ht).2.2.2.1⟩
      · rintro ⟨a, b⟩
        exact ⟨a, fun t ht _ _ => b t ht⟩
    rw [pm.length_eq]
end
end K74

set_option Elab.async false
set_option linter.all false
set_option maxRecDepth 100000
set_option maxHeartbeats 4000000
namespace K74
open PySem PySem.Spec L2 DL
/-! what the structures of forms are, and what is made of them: run by the kernel -/
def got (m : M D) : D := m.val.getD .stt
theorem got_eq {m : M D} (h : m.val.isSome = true) : m = .ret (got m) := by
  cases m with
  | ret a => rfl
  | fail => cases h
  | ask k f => cases h
def eqv (m : M D) (d : D) : Bool := match m with
  | .ret e => e.pl 60 && D.beq e d
  | _ => false
theorem eqv_eq {m : M D} {d : D} (h : eqv m d = true) : m = .ret d := by
  cases m with
  | ret e =>
    simp only [eqv, Bool.and_eq_true] at h
    rw [(D.beq_eq 60 e d h.1).mp h.2]
  | fail => cases h
  | ask k f => cases h
def S1 (f v : Int) : D := got (t_law_structure (36 + 4) [v, v] [f])
def S2 (a b : Int) : D := got (t_law_structure (36 + 4) [a, b] [(0 : Int), (1 : Int)])
def A1 (f u v : Int) : D := got (t_made_one (36 + 4) (S1 f u) (S1 f v))
def A2 (a b c d : Int) : D := got (t_made_one (36 + 4) (S2 a b) (S2 c d))
def A3 (a b : Int) : D := got (t_made_one (36 + 4) (S1 0 a) (S1 1 b))
def is0 (A : D) : M Bool := dIx A (eI (0 : Int)) >>= fun v => asBM (dEq v (eS s_one))
def no0 (A : D) : M Bool := dIx A (eI (0 : Int)) >>= fun v => asBM (dNe v (eS s_one))
def no1 (A L : D) : M Bool := dIx A (eI (1 : Int)) >>= fun v => asBM (dNe v L)
def noG (L R : D) : M Bool := t_more_general (36 + 4) L R >>= fun v => asBM (dNe v ((eL eI) [(0 : Int), (1 : Int)]))
def I3 : List Int := [0, 1, 2]
theorem k1 : (I3.all fun a => I3.all fun b => (t_law_structure (36 + 4) [a, b] [(0 : Int), (1 : Int)]).val.isSome && (eqv (t_law_structure (36 + 4) [a, b] [0]) (S1 0 a) && eqv (t_law_structure (36 + 4) [a, b] [1]) (S1 1 b))) = true := by decide +kernel
def ck2 (f u v : Int) : Bool := (t_made_one (36 + 4) (S1 f u) (S1 f v)).val.isSome && (eqv (t_made_one_fault (36 + 4) (S1 f u) (S1 f v) (A1 f u v)) .non && (decide ((is0 (A1 f u v)).val = some (decide (u = v))) && (decide (u ≠ v) || (decide ((no1 (A1 f u v) (S1 f u)).val = some false) && decide ((noG (S1 f u) (S1 f v)).val = some false)))))
theorem z000 : ck2 0 0 0 = true := by decide +kernel
theorem z001 : ck2 0 0 1 = true := by decide +kernel
theorem z002 : ck2 0 0 2 = true := by decide +kernel
theorem z010 : ck2 0 1 0 = true := by decide +kernel
theorem z011 : ck2 0 1 1 = true := by decide +kernel
theorem z012 : ck2 0 1 2 = true := by decide +kernel
theorem z020 : ck2 0 2 0 = true := by decide +kernel
theorem z021 : ck2 0 2 1 = true := by decide +kernel
theorem z022 : ck2 0 2 2 = true := by decide +kernel
theorem z100 : ck2 1 0 0 = true := by decide +kernel
theorem z101 : ck2 1 0 1 = true := by decide +kernel
theorem z102 : ck2 1 0 2 = true := by decide +kernel
theorem z110 : ck2 1 1 0 = true := by decide +kernel
theorem z111 : ck2 1 1 1 = true := by decide +kernel
theorem z112 : ck2 1 1 2 = true := by decide +kernel
theorem z120 : ck2 1 2 0 = true := by decide +kernel
theorem z121 : ck2 1 2 1 = true := by decide +kernel
theorem z122 : ck2 1 2 2 = true := by decide +kernel
def ck4 (a b : Int) : Bool := (t_made_one (36 + 4) (S1 0 a) (S1 1 b)).val.isSome && (decide ((no0 (A3 a b)).val = some false) && decide ((no1 (A3 a b) (S2 a b)).val = some false))
theorem k4 : (I3.all fun a => I3.all fun b => ck4 a b) = true := by decide +kernel
def ck3 (a b c d : Int) : Bool := (t_made_one (36 + 4) (S2 a b) (S2 c d)).val.isSome && decide ((is0 (A2 a b c d)).val = some (decide ([a, b] = [c, d])))
theorem k30 : (I3.all fun b => I3.all fun c => I3.all fun d => ck3 0 b c d) = true := by decide +kernel
theorem k31 : (I3.all fun b => I3.all fun c => I3.all fun d => ck3 1 b c d) = true := by decide +kernel
theorem k32 : (I3.all fun b => I3.all fun c => I3.all fun d => ck3 2 b c d) = true := by decide +kernel
theorem mem3 {a : Int} (h0 : 0 ≤ a) (h1 : a < 3) : a ∈ I3 := by
  have : a = 0 ∨ a = 1 ∨ a = 2 := by omega
  rcases this with rfl | rfl | rfl <;> simp [I3]
theorem k2 {f u v : Int} (f0 : 0 ≤ f) (f1 : f < 2) (u0 : 0 ≤ u) (u1 : u < 3) (v0 : 0 ≤ v) (v1 : v < 3) : ck2 f u v = true := by
  have h1 : f = 0 ∨ f = 1 := by omega
  have h2 : u = 0 ∨ u = 1 ∨ u = 2 := by omega
  have h3 : v = 0 ∨ v = 1 ∨ v = 2 := by omega
  rcases h1 with rfl | rfl <;> rcases h2 with rfl | rfl | rfl <;> rcases h3 with rfl | rfl | rfl
  · exact z000
  · exact z001
  · exact z002
  · exact z010
  · exact z011
  · exact z012
  · exact z020
  · exact z021
  · exact z022
  · exact z100
  · exact z101
  · exact z102
  · exact z110
  · exact z111
  · exact z112
  · exact z120
  · exact z121
  · exact z122
theorem k3 {a b c d : Int} (a0 : 0 ≤ a) (a1 : a < 3) (b0 : 0 ≤ b) (b1 : b < 3) (c0 : 0 ≤ c) (c1 : c < 3) (d0 : 0 ≤ d) (d1 : d < 3) : ck3 a b c d = true := by
  have h1 : a = 0 ∨ a = 1 ∨ a = 2 := by omega
  have mb := mem3 b0 b1
  have mc := mem3 c0 c1
  have md := mem3 d0 d1
  rcases h1 with rfl | rfl | rfl
  · exact List.all_eq_true.mp (List.all_eq_true.mp (List.all_eq_true.mp k30 b mb) c mc) d md
  · exact List.all_eq_true.mp (List.all_eq_true.mp (List.all_eq_true.mp k31 b mb) c mc) d md
  · exact List.all_eq_true.mp (List.all_eq_true.mp (List.all_eq_true.mp k32 b mb) c mc) d md
/-- a form's structure with the one feature -/
theorem st1 {a b f : Int} (f0 : 0 ≤ f) (f1 : f < 2) (a0 : 0 ≤ a) (a1 : a < 3) (b0 : 0 ≤ b) (b1 : b < 3) : t_law_structure (36 + 4) [a, b] [f] = .ret (S1 f (if f = 0 then a else b)) := by
  have h := List.all_eq_true.mp (List.all_eq_true.mp k1 a (mem3 a0 a1)) b (mem3 b0 b1)
  simp only [Bool.and_eq_true] at h
  have h1 : f = 0 ∨ f = 1 := by omega
  rcases h1 with rfl | rfl
  · exact eqv_eq h.2.1
  · exact eqv_eq h.2.2
theorem st2 {a b : Int} (a0 : 0 ≤ a) (a1 : a < 3) (b0 : 0 ≤ b) (b1 : b < 3) : t_law_structure (36 + 4) [a, b] [(0 : Int), (1 : Int)] = .ret (S2 a b) := by
  have h := List.all_eq_true.mp (List.all_eq_true.mp k1 a (mem3 a0 a1)) b (mem3 b0 b1)
  simp only [Bool.and_eq_true] at h
  exact got_eq h.1
end K74

set_option Elab.async false
set_option linter.all false
set_option maxRecDepth 100000
set_option maxHeartbeats 4000000
namespace K74
open PySem PySem.Spec L2 DL
/-! one turn of the law's loops -/
def b6 (st : List Int → List Int → M D) (mk : D → D → M D) (fa : D → D → D → M D) (mg : D → D → M D) (words_ : Wd) (feature_ x19 x23 : Int) (s24 : List (List Int)) : M (Fw (List (List Int)) Bool) := (((ixM words_ (0 : Int)) >>= fun v25 => (ixM v25 x19)) >>= fun v27 => (st v27 [feature_])) >>= fun left_v31 => (((ixM words_ (1 : Int)) >>= fun v28 => (ixM v28 x23)) >>= fun v30 => (st v30 [feature_])) >>= fun right_v32 => ((mk left_v31 right_v32)) >>= fun answer_v33 => ((((fa left_v31 right_v32 answer_v33)) >>= fun v34 => .ret (!isNonD v34)) >>= fun kb => if kb then .ret (.back false) else ((((dIx answer_v33 (eI (0 : Int))) >>= fun v36 => (asBM (dEq v36 (eS s_one)))) >>= fun kb => if kb then appM s24 [x19, x23] >>= fun good_v38 => ((((dIx answer_v33 (eI (1 : Int))) >>= fun v39 => (asBM (dNe v39 left_v31))) >>= fun kb => if kb then .ret true else (((mg left_v31 right_v32)) >>= fun v41 => (asBM (dNe v41 ((eL eI) [(0 : Int), (1 : Int)]))))) >>= fun kb => if kb then .ret (.back false) else .ret (.go good_v38)) else .ret (.go s24)) : M (Fw (List (List Int)) Bool)) >>= contR (fun s43 => ((((ixM words_ (0 : Int)) >>= fun v44 => (ixM v44 x19)) >>= fun v46 => (st v46 [(0 : Int), (1 : Int)])) >>= fun v50 => (((ixM words_ (1 : Int)) >>= fun v47 => (ixM v47 x23)) >>= fun v49 => (st v49 [(0 : Int), (1 : Int)])) >>= fun v51 => (mk v50 v51)) >>= fun whole_v52 => ((((dIx whole_v52 (eI (0 : Int))) >>= fun v53 => (asBM (dEq v53 (eS s_one)))) >>= fun v61 => (((ixM words_ (0 : Int)) >>= fun v55 => (ixM v55 x19)) >>= fun v59 => ((ixM words_ (1 : Int)) >>= fun v57 => (ixM v57 x23)) >>= fun v60 => .ret (decide (v59 = v60))) >>= fun v62 => .ret (!(v61 == v62))) >>= fun kb => if kb then .ret (.back false) else ((((ixM words_ (0 : Int)) >>= fun v63 => (ixM v63 x19)) >>= fun v65 => (st v65 [(0 : Int)])) >>= fun v69 => (((ixM words_ (1 : Int)) >>= fun v66 => (ixM v66 x23)) >>= fun v68 => (st v68 [(1 : Int)])) >>= fun v70 => (mk v69 v70)) >>= fun part_v71 => ((((dIx part_v71 (eI (0 : Int))) >>= fun v72 => (asBM (dNe v72 (eS s_one)))) >>= fun kb => if kb then .ret true else ((dIx part_v71 (eI (1 : Int))) >>= fun v85 => (((((ixM words_ (0 : Int)) >>= fun v74 => (ixM v74 x19)) >>= fun v76 => (ixM v76 (0 : Int))) >>= fun v82 => (((ixM words_ (1 : Int)) >>= fun v78 => (ixM v78 x23)) >>= fun v80 => (ixM v80 (1 : Int))) >>= fun v83 => .ret [v82, v83]) >>= fun v84 => (st v84 [(0 : Int), (1 : Int)])) >>= fun v86 => (asBM (dNe v85 v86)))) >>= fun kb => if kb then .ret (.back false) else .ret (.go s43)))) (fun r => (Fw.back r)))
def pickF (f a b : Int) : Int := if f = 0 then a else b
theorem ix0 {α : Type} (a b : α) : ixM [a, b] (0 : Int) = .ret a := rfl
theorem ix1 {α : Type} (a b : α) : ixM [a, b] (1 : Int) = .ret b := rfl
section
variable {st : List Int → List Int → M D} {mk : D → D → M D} {fa : D → D → D → M D} {mg : D → D → M D} {words : Wd} {f x y a b c d u v : Int} {s : List (List Int)} {L R A L2 R2 A2 L3 R3 A3 P3 : D}
theorem b6_tail (hl : (ixM words (0 : Int) >>= fun v => ixM v x) = .ret [a, b]) (hr : (ixM words (1 : Int) >>= fun v => ixM v y) = .ret [c, d])
    (g1 : st [a, b] [(0 : Int), (1 : Int)] = .ret L2) (g2 : st [c, d] [(0 : Int), (1 : Int)] = .ret R2) (g3 : mk L2 R2 = .ret A2) (g4 : (dIx A2 (eI (0 : Int)) >>= fun v => asBM (dEq v (eS s_one))) = .ret (decide ([a, b] = [c, d])))
    (h1 : st [a, b] [(0 : Int)] = .ret L3) (h2 : st [c, d] [(1 : Int)] = .ret R3) (h3 : mk L3 R3 = .ret A3) (h4 : (dIx A3 (eI (0 : Int)) >>= fun v => asBM (dNe v (eS s_one))) = .ret false)
    (g5 : st [a, d] [(0 : Int), (1 : Int)] = .ret P3) (h5 : (dIx A3 (eI (1 : Int)) >>= fun v => asBM (dNe v P3)) = .ret false) (s43 : List (List Int)) : (((((ixM words (0 : Int)) >>= fun v44 => (ixM v44 x)) >>= fun v46 => (st v46 [(0 : Int), (1 : Int)])) >>= fun v50 => (((ixM words (1 : Int)) >>= fun v47 => (ixM v47 y)) >>= fun v49 => (st v49 [(0 : Int), (1 : Int)])) >>= fun v51 => (mk v50 v51)) >>= fun whole_v52 => ((((dIx whole_v52 (eI (0 : Int))) >>= fun v53 => (asBM (dEq v53 (eS s_one)))) >>= fun v61 => (((ixM words (0 : Int)) >>= fun v55 => (ixM v55 x)) >>= fun v59 => ((ixM words (1 : Int)) >>= fun v57 => (ixM v57 y)) >>= fun v60 => .ret (decide (v59 = v60))) >>= fun v62 => .ret (!(v61 == v62))) >>= fun kb => if kb then .ret (.back false) else ((((ixM words (0 : Int)) >>= fun v63 => (ixM v63 x)) >>= fun v65 => (st v65 [(0 : Int)])) >>= fun v69 => (((ixM words (1 : Int)) >>= fun v66 => (ixM v66 y)) >>= fun v68 => (st v68 [(1 : Int)])) >>= fun v70 => (mk v69 v70)) >>= fun part_v71 => ((((dIx part_v71 (eI (0 : Int))) >>= fun v72 => (asBM (dNe v72 (eS s_one)))) >>= fun kb => if kb then .ret true else ((dIx part_v71 (eI (1 : Int))) >>= fun v85 => (((((ixM words (0 : Int)) >>= fun v74 => (ixM v74 x)) >>= fun v76 => (ixM v76 (0 : Int))) >>= fun v82 => (((ixM words (1 : Int)) >>= fun v78 => (ixM v78 y)) >>= fun v80 => (ixM v80 (1 : Int))) >>= fun v83 => .ret [v82, v83]) >>= fun v84 => (st v84 [(0 : Int), (1 : Int)])) >>= fun v86 => (asBM (dNe v85 v86)))) >>= fun kb => if kb then .ret (.back false) else .ret (.go s43))) : M (Fw (List (List Int)) Bool)) = .ret (.go s43) := by
  have i1 : ((ixM words (0 : Int) >>= fun v => ixM v x) >>= fun v => ixM v (0 : Int)) = .ret a := by rw [hl]; rfl
  have i2 : ((ixM words (1 : Int) >>= fun v => ixM v y) >>= fun v => ixM v (1 : Int)) = .ret d := by rw [hr]; rfl
  simp only [hl, hr, g1, g2, M.bind_ret, g3, g4, h1, h2, h3, h4, ix0, ix1, g5, h5, beq_self_eq_true, Bool.not_true, Bool.false_eq_true, if_false]
theorem b6_core (hl : (ixM words (0 : Int) >>= fun v => ixM v x) = .ret [a, b]) (hr : (ixM words (1 : Int) >>= fun v => ixM v y) = .ret [c, d])
    (e1 : st [a, b] [f] = .ret L) (e2 : st [c, d] [f] = .ret R) (e3 : mk L R = .ret A) (e4 : fa L R A = .ret .non) (e5 : (dIx A (eI (0 : Int)) >>= fun v => asBM (dEq v (eS s_one))) = .ret (decide (u = v)))
    (q4 : u = v → (dIx A (eI (1 : Int)) >>= fun v => asBM (dNe v L)) = .ret false ∧ (mg L R >>= fun v => asBM (dNe v ((eL eI) [(0 : Int), (1 : Int)]))) = .ret false)
    (g1 : st [a, b] [(0 : Int), (1 : Int)] = .ret L2) (g2 : st [c, d] [(0 : Int), (1 : Int)] = .ret R2) (g3 : mk L2 R2 = .ret A2) (g4 : (dIx A2 (eI (0 : Int)) >>= fun v => asBM (dEq v (eS s_one))) = .ret (decide ([a, b] = [c, d])))
    (h1 : st [a, b] [(0 : Int)] = .ret L3) (h2 : st [c, d] [(1 : Int)] = .ret R3) (h3 : mk L3 R3 = .ret A3) (h4 : (dIx A3 (eI (0 : Int)) >>= fun v => asBM (dNe v (eS s_one))) = .ret false)
    (g5 : st [a, d] [(0 : Int), (1 : Int)] = .ret P3) (h5 : (dIx A3 (eI (1 : Int)) >>= fun v => asBM (dNe v P3)) = .ret false) (hs : s.length < 100000) :
    b6 st mk fa mg words f x y s = .ret (.go (if u = v then s ++ [[x, y]] else s)) := by
  have tail := b6_tail hl hr g1 g2 g3 g4 h1 h2 h3 h4 g5 h5
  unfold b6
  simp only [hl, hr, e1, e2, M.bind_ret, e3, e4, e5]
  rw [show isNonD D.non = true from rfl]
  simp only [Bool.not_true, Bool.false_eq_true, if_false]
  by_cases huv : u = v
  · obtain ⟨e6, e7⟩ := q4 huv
    rw [decide_eq_true huv]
    simp only [if_true, appM_ret hs, M.bind_ret, e6, e7, Bool.false_eq_true, if_false]
    rw [if_pos huv]
    simp only [hl, hr, g1, g2, M.bind_ret, g3, g4, h1, h2, h3, h4, ix0, ix1, g5, h5, beq_self_eq_true, Bool.not_true, Bool.false_eq_true, if_false, contR]
  · rw [decide_eq_false huv]
    simp only [Bool.false_eq_true, if_false, M.bind_ret]
    rw [if_neg huv]
    simp only [hl, hr, g1, g2, M.bind_ret, g3, g4, h1, h2, h3, h4, ix0, ix1, g5, h5, beq_self_eq_true, Bool.not_true, Bool.false_eq_true, if_false, contR]
end
end K74

set_option Elab.async false
set_option linter.all false
set_option maxRecDepth 100000
set_option maxHeartbeats 4000000
namespace K74
open PySem PySem.Spec L2 DL
theorem b6_ret {words : Wd} {f x y a b c d : Int} {s : List (List Int)} (hl : (ixM words (0 : Int) >>= fun v => ixM v x) = .ret [a, b]) (hr : (ixM words (1 : Int) >>= fun v => ixM v y) = .ret [c, d])
    (f0 : 0 ≤ f) (f1 : f < 2) (a0 : 0 ≤ a) (a1 : a < 3) (b0 : 0 ≤ b) (b1 : b < 3) (c0 : 0 ≤ c) (c1 : c < 3) (d0 : 0 ≤ d) (d1 : d < 3) (hs : s.length < 100000) :
    b6 (t_law_structure (36 + 4)) (t_made_one (36 + 4)) (t_made_one_fault (36 + 4)) (t_more_general (36 + 4)) words f x y s = .ret (.go (if pickF f a b = pickF f c d then s ++ [[x, y]] else s)) := by
  have u0 : 0 ≤ pickF f a b ∧ pickF f a b < 3 := by unfold pickF; split <;> omega
  have v0 : 0 ≤ pickF f c d ∧ pickF f c d < 3 := by unfold pickF; split <;> omega
  have e1 := st1 f0 f1 a0 a1 b0 b1
  have e2 := st1 f0 f1 c0 c1 d0 d1
  rw [show (if f = 0 then a else b) = pickF f a b from rfl] at e1
  rw [show (if f = 0 then c else d) = pickF f c d from rfl] at e2
  have k := k2 f0 f1 u0.1 u0.2 v0.1 v0.2
  generalize pickF f a b = u at e1 k u0 ⊢
  generalize pickF f c d = v at e2 k v0 ⊢
  unfold ck2 at k
  rw [Bool.and_eq_true, Bool.and_eq_true, Bool.and_eq_true, Bool.or_eq_true, Bool.and_eq_true, decide_eq_true_eq, decide_eq_true_eq, decide_eq_true_eq, decide_eq_true_eq] at k
  obtain ⟨q1, q2, q3, q4⟩ := k
  have k3' := k3 a0 a1 b0 b1 c0 c1 d0 d1
  unfold ck3 at k3'
  rw [Bool.and_eq_true, decide_eq_true_eq] at k3'
  have h1 := st1 (f := 0) (by omega) (by omega) a0 a1 b0 b1
  rw [if_pos rfl] at h1
  have h2 := st1 (f := 1) (by omega) (by omega) c0 c1 d0 d1
  rw [if_neg (by decide)] at h2
  have k4' := List.all_eq_true.mp (List.all_eq_true.mp k4 a (mem3 a0 a1)) d (mem3 d0 d1)
  unfold ck4 at k4'
  rw [Bool.and_eq_true, Bool.and_eq_true, decide_eq_true_eq, decide_eq_true_eq] at k4'
  exact b6_core hl hr e1 e2 (got_eq q1) (eqv_eq q2) (M.val_eq q3) (fun huv => by
    obtain ⟨q5, q6⟩ := q4.resolve_left fun z => z huv
    exact ⟨M.val_eq q5, M.val_eq q6⟩) (st2 a0 a1 b0 b1) (st2 c0 c1 d0 d1) (got_eq k3'.1) (M.val_eq k3'.2) h1 h2 (got_eq k4'.1) (M.val_eq k4'.2.1) (st2 a0 a1 d0 d1) (M.val_eq k4'.2.2) hs
/-! the law's words -/
def Fm (l : List Int) : Prop := ∃ a b : Int, l = [a, b] ∧ (0 ≤ a ∧ a < 3) ∧ 0 ≤ b ∧ b < 3
structure W2 (words : Wd) : Prop where
  n2 : words.length = 2
  lens : ∀ x ∈ words, 1 ≤ x.length ∧ x.length ≤ 4
  fms : ∀ x ∈ words, ∀ l ∈ x, Fm l
theorem gl_pick {a b f : Int} (f0 : 0 ≤ f) (f1 : f < 2) : ([a, b] : List Int).getD f.toNat 0 = pickF f a b := by
  have h : f = 0 ∨ f = 1 := by omega
  rcases h with rfl | rfl <;> rfl
theorem Fm.two {l : List Int} (h : Fm l) : l.length = 2 := by
  obtain ⟨a, b, rfl, _⟩ := h; rfl
theorem W2.wf {words : Wd} (w : W2 words) {f : Int} (f0 : 0 ≤ f) (f1 : f < 2) : Wf words [((0 : Int), (1 : Int), f)] where
  n1 := by rw [w.n2]; decide
  lens := fun x hx => (w.lens x hx).2
  two := fun x hx l hl => (w.fms x hx l hl).two
  tie := fun t ht => by
    rw [List.mem_singleton] at ht
    subst ht
    rw [w.n2]
    show (0 : Int) ≤ 0 ∧ (0 : Int) < ((2 : Nat) : Int) ∧ (0 : Int) ≤ 1 ∧ (1 : Int) < ((2 : Nat) : Int) ∧ (0 : Int) ≠ 1 ∧ 0 ≤ f ∧ f < 2
    exact ⟨by omega, by omega, by omega, by omega, by omega, f0, f1⟩
  tl := by simp
  uniq := fun s hs t ht _ => by
    rw [List.mem_singleton] at hs ht
    rw [hs, ht]
/-- the pairs that agree -/
def fil (words : Wd) (f : Int) (r : List Int) (y : Int) : Bool := decide (gv words 0 (gl r 0) f = gv words 1 y f)
def good (words : Wd) (f : Int) : List (List Int) := stepR (wf words 1).length (fil words f) (stepR (wf words 0).length (fun _ _ => true) [[]])
theorem turn_ret {words : Wd} (w : W2 words) {f : Int} (f0 : 0 ≤ f) (f1 : f < 2) {x y : Int} (hx : InF words 0 x) (hy : InF words 1 y) {s : List (List Int)} (hs : s.length < 100000) :
    b6 (t_law_structure (36 + 4)) (t_made_one (36 + 4)) (t_made_one_fault (36 + 4)) (t_more_general (36 + 4)) words f x y s = .ret (.go (if fil words f [x] y = true then s ++ [[x, y]] else s)) := by
  have w0 : InW words 0 := ⟨by omega, by rw [w.n2]; decide⟩
  have w1 : InW words 1 := ⟨by omega, by rw [w.n2]; decide⟩
  obtain ⟨a, b, e, ⟨a0, a1⟩, b0, b1⟩ := w.fms _ (wf_mem w0) _ (fm_mem hx)
  obtain ⟨c, d, e', ⟨c0, c1⟩, d0, d1⟩ := w.fms _ (wf_mem w1) _ (fm_mem hy)
  rw [b6_ret (a := a) (b := b) (c := c) (d := d) (by rw [ixW w0, M.bind_ret, ixF hx, e]) (by rw [ixW w1, M.bind_ret, ixF hy, e']) f0 f1 a0 a1 b0 b1 c0 c1 d0 d1 hs]
  unfold fil gv
  rw [show gl [x] 0 = x from rfl, e, e', gl_pick f0 f1, gl_pick f0 f1]
  by_cases h : pickF f a b = pickF f c d
  · rw [if_pos h, if_pos (decide_eq_true h)]
  · rw [if_neg h, if_neg (by simp [h])]
theorem row_ret {words : Wd} (w : W2 words) {f : Int} (f0 : 0 ≤ f) (f1 : f < 2) {x : Int} (hx : InF words 0 x) : ∀ (ys : List Int) (s : List (List Int)), (∀ y ∈ ys, InF words 1 y) → s.length + ys.length < 100000 →
    loopR (fun y s => b6 (t_law_structure (36 + 4)) (t_made_one (36 + 4)) (t_made_one_fault (36 + 4)) (t_more_general (36 + 4)) words f x y s) ys s = .ret (.go (s ++ (ys.filter (fil words f [x])).map fun y => [x] ++ [y]))
  | [], s, _, _ => by simp [loopR]
  | y :: ys, s, hy, hs => by
    rw [List.length_cons] at hs
    unfold loopR
    rw [turn_ret w f0 f1 hx (hy y List.mem_cons_self) (by omega), M.bind_ret, List.filter_cons]
    cases fil words f [x] y with
    | true =>
      simp only [if_true]
      show loopR _ ys (s ++ [[x, y]]) = _
      rw [row_ret w f0 f1 hx ys _ (fun z hz => hy z (List.mem_cons_of_mem _ hz)) (by rw [List.length_append, List.length_singleton]; omega), List.map_cons, List.append_assoc]
      rfl
    | false =>
      simp only [Bool.false_eq_true, if_false]
      show loopR _ ys s = _
      exact row_ret w f0 f1 hx ys _ (fun z hz => hy z (List.mem_cons_of_mem _ hz)) (by omega)
end K74

set_option Elab.async false
set_option linter.all false
set_option maxRecDepth 100000
set_option maxHeartbeats 4000000
namespace K74
open PySem PySem.Spec L2 DL
def rowM (words : Wd) (f : Int) (x : Int) (s : List (List Int)) : M (Fw (List (List Int)) Bool) := (((((ixM words (1 : Int)) >>= fun v21 => .ret ((v21.length : Nat) : Int)) >>= fun v22 => rgM 0 v22) >>= fun v87 => loopR (fun y s => b6 (t_law_structure (36 + 4)) (t_made_one (36 + 4)) (t_made_one_fault (36 + 4)) (t_more_general (36 + 4)) words f x y s) v87 s) : M (Fw (List (List Int)) Bool)) >>= contR (fun s88 => .ret (.go s88)) (fun r => (Fw.back r))
theorem r6_eq (words : Wd) (f : Int) (ties : List T3) (told : D) (g : List (List Int)) : t_law_r6 36 words f ties told g = ((((((ixM words (0 : Int)) >>= fun v17 => .ret ((v17.length : Nat) : Int)) >>= fun v18 => rgM 0 v18) >>= fun v89 => loopR (rowM words f) v89 g) : M (Fw (List (List Int)) Bool)) >>= contR (fun s90 => t_law_r7 36 words f ties told s90) (fun r => r)) := rfl
theorem len_rng (n : Nat) : (rng n).length = n := by simp [rng]
theorem rowM_ret {words : Wd} (w : W2 words) {f : Int} (f0 : 0 ≤ f) (f1 : f < 2) {x : Int} (hx : InF words 0 x) {s : List (List Int)} (hs : s.length < 50000) :
    rowM words f x s = .ret (.go (s ++ ((rng (wf words 1).length).filter (fil words f [x])).map fun y => [x] ++ [y])) := by
  have w1 : InW words 1 := ⟨by omega, by rw [w.n2]; decide⟩
  have l4 := (w.lens _ (wf_mem w1)).2
  unfold rowM
  rw [ixW w1, M.bind_ret, M.bind_ret, rgM_nat (by omega), M.bind_ret]
  show (loopR _ (rng (wf words 1).length) s >>= _) = _
  rw [row_ret w f0 f1 hx (rng (wf words 1).length) s (fun y hy => rng_mem.mp hy) (by rw [len_rng]; omega), M.bind_ret]
  rfl
theorem rows_ret {words : Wd} (w : W2 words) {f : Int} (f0 : 0 ≤ f) (f1 : f < 2) : ∀ (xs : List Int) (s : List (List Int)), (∀ x ∈ xs, InF words 0 x) → s.length + xs.length * 4 < 40000 →
    loopR (rowM words f) xs s = .ret (.go (s ++ stepR (wf words 1).length (fil words f) (xs.map fun x => [x])))
  | [], s, _, _ => by simp [loopR, stepR]
  | x :: xs, s, hx, hs => by
    have w1 : InW words 1 := ⟨by omega, by rw [w.n2]; decide⟩
    have l4 := (w.lens _ (wf_mem w1)).2
    rw [List.length_cons] at hs
    unfold loopR
    rw [rowM_ret w f0 f1 (hx x List.mem_cons_self) (by omega), M.bind_ret]
    show loopR (rowM words f) xs (s ++ ((rng (wf words 1).length).filter (fil words f [x])).map fun y => [x] ++ [y]) = _
    have hf := List.length_filter_le (fil words f [x]) (rng (wf words 1).length)
    rw [len_rng] at hf
    rw [rows_ret w f0 f1 xs _ (fun z hz => hx z (List.mem_cons_of_mem _ hz)) (by rw [List.length_append, List.length_map]; omega)]
    unfold stepR
    rw [List.map_cons, List.flatMap_cons, List.append_assoc]
theorem first_rows (words : Wd) : stepR (wf words 0).length (fun _ _ => true) [[]] = (rng (wf words 0).length).map fun x => [x] := by
  unfold stepR
  rw [List.flatMap_cons, List.flatMap_nil, List.append_nil, List.filter_eq_self.mpr fun _ _ => rfl]
  rfl
theorem two_words {words : Wd} (w : W2 words) : words = ([] ++ [wf words 0]) ++ [wf words 1] := by
  obtain ⟨n2, _, _⟩ := w
  match words, n2 with
  | [a, b], _ => rfl
theorem good_ways {words : Wd} (w : W2 words) {f : Int} (f0 : 0 ≤ f) (f1 : f < 2) : Ways words [((0 : Int), (1 : Int), f)] (good words f) := by
  have h := w.wf f0 f1
  have w0 : InW words 0 := ⟨by omega, by rw [w.n2]; decide⟩
  have w1 : InW words 1 := ⟨by omega, by rw [w.n2]; decide⟩
  have P1 : Rws (PreOk words [((0 : Int), (1 : Int), f)]) ([] ++ [wf words 0]) (stepR (wf words 0).length (fun _ _ => true) [[]]) := by
    refine rws_step (h.lens _ (wf_mem w0)) (rws_nil fun t ht a b => ?_) (fun r hr i i0 i1 => ?_) fun r i ok hp t ht a b => ?_
    · rw [List.mem_singleton] at ht; subst ht; exact absurd a (by simp)
    · refine ⟨fun _ t ht a b => ?_, fun _ => rfl⟩
      rw [List.mem_singleton] at ht; subst ht; exact absurd b (by simp)
    · rw [List.mem_singleton] at ht; subst ht; exact absurd a (by simp)
  have P2 : Rws (PreOk words [((0 : Int), (1 : Int), f)]) (([] ++ [wf words 0]) ++ [wf words 1]) (good words f) := by
    refine rws_step (h.lens _ (wf_mem w1)) P1 (fun r hr i i0 i1 => ?_) fun r i ok hp t ht a b => ?_
    · rw [first_rows] at hr
      obtain ⟨j, _, rfl⟩ := List.mem_map.mp hr
      unfold fil
      rw [decide_eq_true_eq]
      constructor
      · intro z t ht a b
        rw [List.mem_singleton] at ht; subst ht
        exact z
      · intro z
        exact z _ (List.mem_singleton.mpr rfl) (by simp) (by simp)
    · rw [List.mem_singleton] at ht; subst ht; exact absurd b (by simp)
  rw [← two_words w] at P2
  refine ⟨rws_bound P2 h.n1, P2.pw, fun r => ?_⟩
  rw [P2.mem, isWay_iff]
  constructor
  · rintro ⟨a, b⟩
    exact ⟨a, fun t ht => b t ht (h.tie t ht).2.1 (h.tie t ht).2.2.2.1⟩
  · rintro ⟨a, b⟩
    exact ⟨a, fun t ht _ _ => b t ht⟩
theorem wp7 {words : Wd} (w : W2 words) {f : Int} (f0 : 0 ≤ f) (f1 : f < 2) {told : D} (T : Told words [((0 : Int), (1 : Int), f)] told) : (t_law_r7 36 words f [((0 : Int), (1 : Int), f)] told (good words f)).wp (· = true) := by
  have h := w.wf f0 f1
  have W := good_ways w f0 f1
  obtain ⟨c, ec, hc⟩ := rt_count h W
  subst hc
  unfold t_law_r7
  rw [ec, M.bind_ret, M.bind_ret, decide_eq_true rfl]
  simp only [Bool.not_true, Bool.false_eq_true, if_false]
  generalize good words f = ways at W
  cases T with
  | never rows no ok few =>
    have e0 : ways = [] := by
      cases ways with
      | nil => rfl
      | cons r rs => exact absurd ⟨_, ((W.mem r).mp List.mem_cons_self).2⟩ no
    subst e0
    rw [toldN0, M.bind_ret]
    rfl
  | forms row way least =>
    have hm : row ∈ ways := (W.mem row).mpr way
    cases ways with
    | nil => cases hm
    | cons r rs =>
      have hp : ((0 : Int) < (((r :: rs).length : Nat) : Int)) := by simp
      have er : row = r := by
        rcases List.mem_cons.mp hm with e | hm2
        · exact e
        · have h1 := ((List.pairwise_cons.mp W.pw).1 _ hm2).le
          have wr := (W.mem r).mp List.mem_cons_self
          exact lexLe.anti (by rw [way.1, wr.1]) (least r wr) h1
      rw [toldF0, M.bind_ret, decide_eq_true hp]
      simp only [beq_self_eq_true, Bool.not_true, M.bind_ret, Bool.false_eq_true, if_false]
      have hn : ¬ (((r :: rs).length : Nat) : Int) = 0 := by omega
      rw [decide_eq_false hn]
      simp only [Bool.false_eq_true, if_false]
      rw [toldF1, M.bind_ret, ixM_ret [] (by omega) hp, M.bind_ret, M.bind_ret]
      show (asBM (dEq (eL eI row) (eL eI r))).wp _
      rw [er, o_eqE (cL cI), decide_eq_true rfl]
      exact rfl
theorem wp3 {words : Wd} (w : W2 words) {f : Int} (f0 : 0 ≤ f) (f1 : f < 2) : (t_law_r3 36 words f [((0 : Int), (1 : Int), f)]).wp (· = true) := by
  have h := w.wf f0 f1
  have w0 : InW words 0 := ⟨by omega, by rw [w.n2]; decide⟩
  have l4 := (w.lens _ (wf_mem w0)).2
  unfold t_law_r3
  obtain ⟨told, et, T⟩ := rt_agreed h
  rw [et, M.bind_ret]
  unfold t_law_r4
  have e : t_agreed_fault words [((0 : Int), (1 : Int), f)] told = .ret (eN ()) := by
    cases T with
    | never rows no ok few => rw [agreed_fault_N h, ok]
    | forms row way least => rw [agreed_fault_F h, way_fault way]
  rw [e, M.bind_ret, M.bind_ret]
  show ((if (!isNonD D.non) = true then M.ret false else _) : M Bool).wp _
  rw [show isNonD D.non = true from rfl]
  simp only [Bool.not_true, Bool.false_eq_true, if_false]
  unfold t_law_r5
  rw [M.bind_ret, r6_eq, ixW w0, M.bind_ret, M.bind_ret, rgM_nat (by omega), M.bind_ret]
  show ((loopR (rowM words f) (rng (wf words 0).length) [] >>= _) : M Bool).wp _
  rw [rows_ret w f0 f1 (rng (wf words 0).length) [] (fun x hx => rng_mem.mp hx) (by rw [len_rng]; simp; omega), M.bind_ret, List.nil_append, ← first_rows]
  exact wp7 w f0 f1 T
end K74

set_option Elab.async false
set_option linter.all false
set_option maxRecDepth 100000
set_option maxHeartbeats 4000000
namespace K74
open PySem PySem.Spec L2 DL
theorem rgM_int {v : Int} (h0 : 0 ≤ v) (h1 : v ≤ 1000) : rgM 0 v = .ret (rng v.toNat) := by
  have h := rgM_nat (n := v.toNat) (by omega)
  rw [show ((v.toNat : Nat) : Int) = v by omega] at h
  exact h
theorem cnt_wp : (((askM (4 : Int))) >>= fun v2 => (.ret ((1 : Int) + v2) : M Int)).wp fun v => 1 ≤ v ∧ v ≤ 4 := wp_ask (by omega) (by omega) fun i _ _ => by show 1 ≤ 1 + i ∧ 1 + i ≤ 4; omega
theorem rg_wp : ((((askM (4 : Int))) >>= fun v2 => (.ret ((1 : Int) + v2) : M Int)) >>= fun v3 => rgM 0 v3).wp fun l => 1 ≤ l.length ∧ l.length ≤ 4 := wp_b cnt_wp fun v h => by
  rw [rgM_int (by omega) (by omega)]
  show 1 ≤ (rng v.toNat).length ∧ (rng v.toNat).length ≤ 4
  rw [len_rng]
  omega
def formM : M (List Int) := (((askM (3 : Int))) >>= fun v6 => ((askM (3 : Int))) >>= fun v7 => .ret [v6, v7])
theorem form_wp : formM.wp Fm := wp_ask (by omega) (by omega) fun i i0 i1 => wp_ask (by omega) (by omega) fun j j0 j1 => ⟨i, j, rfl, ⟨i0, i1⟩, j0, j1⟩
def wordM : M (List (List Int)) := ((((askM (4 : Int))) >>= fun v3 => .ret ((1 : Int) + v3)) >>= fun v4 => rgM 0 v4) >>= fun v8 => (lcM (fun x5 => (M.ret true)) (fun x5 => formM)) v8
theorem word_wp : wordM.wp fun x => (1 ≤ x.length ∧ x.length ≤ 4) ∧ ∀ l ∈ x, Fm l := wp_b rg_wp fun l hl => M.wp_mono (wp_lcM fun _ _ => form_wp) fun x hx => ⟨by rw [hx.1]; exact hl, hx.2⟩
def wordsM : M Wd := (rgM 0 (2 : Int)) >>= fun v9 => (lcM (fun x1 => (M.ret true)) (fun x1 => wordM)) v9
theorem words_wp : wordsM.wp W2 := by
  unfold wordsM
  rw [rgM_int (by omega) (by omega), M.bind_ret]
  refine M.wp_mono (wp_lcM fun _ _ => word_wp) fun ws ⟨e, hq⟩ => ⟨?_, fun x hx => (hq x hx).1, fun x hx => (hq x hx).2⟩
  rw [e, len_rng]
  rfl
theorem law_eq : t_law 36 = (wordsM >>= fun words_v10 => t_law_r1 36 words_v10) := rfl
structure Wp {α : Type} (m : M α) (P : α → Prop) : Prop where
  of ::
  h : m.wp P
theorem wp1 {words : Wd} (w : W2 words) : (t_law_r1 36 words).wp (· = true) := by
  unfold t_law_r1
  refine wp_ask (by omega) (by omega) fun f f0 f1 => ?_
  unfold t_law_r2
  rw [M.bind_ret]
  exact wp3 w f0 f1
theorem t_math : Wp (t_law 36) (· = true) := by
  rw [law_eq]
  exact .of (wp_b words_wp fun ws w => wp1 w)
theorem math : (b_law 40 (none :: some (.val .stt) :: List.replicate 14 none)).wp fun r => r.1 = .rt (.bl true) :=
  (rf_law 36).run _ (M.wp_mono t_math.h fun a ha d hd => by
    subst ha
    rcases hd with hd | ⟨_, hd⟩
    · exact hd
    · cases hd)
end K74

set_option Elab.async false
set_option linter.all false
set_option maxRecDepth 100000
set_option maxHeartbeats 0
namespace K74
open PySem PySem.Spec L2 DL
end K74
open PySem PySem.W PySem.Calls PyProof.Rows
theorem PySem.Challenge.cw_wordkinds_k74_forms_as_structures_holds : PySem.Challenge.rw_wordkinds_k74_forms_as_structures.Holds := by
  w_on; o_law
  refine HandSHeadRun.head_any (r := OpenLaw.row PySem.Challenge.rw_wordkinds_k74_forms_as_structures) (q := view (OpenLaw.row PySem.Challenge.rw_wordkinds_k74_forms_as_structures).prog [24]) (H := K74.hk) (ob := K74.ob) (M := 4000) (loose := K74.loose) (d := HandSHeadRun.topDef (OpenLaw.row PySem.Challenge.rw_wordkinds_k74_forms_as_structures).prog 24) (kwd := []) K74.ob_eq
    (by kernel_rfl) (fun s => by kernel_rfl) K74.run (by kernel_rfl) (by kernel_rfl) (by kernel_rfl) (by rfl) (by first | assumption | decide +kernel) (by decide +kernel) ⟨rfl, rfl, rfl, rfl, rfl, by decide +kernel⟩ ?hw ?hc
  case hw => w_witness2
  case hc =>
    refine L2.walk_ofE (l := PySem.Challenge.rw_wordkinds_k74_forms_as_structures) (n := 63) (k := 42) (x := "script") (CX := L2.CX0) rfl (by decide) (by kernel_rfl) ⟨rfl, by decide, by decide⟩ ?F (fun _ _ _ _ z => z)
    intro w mg fa h Y G hmg0
    obtain ⟨K, KX, c⟩ := Y
    have hmg : mg ("law" : PySem.Str) = some (.ref fa) := by
      have e : (HandSHeadRun.topDef (OpenLaw.row PySem.Challenge.rw_wordkinds_k74_forms_as_structures).prog 24).name = ("law" : PySem.Str) := by kernel_rfl
      rw [← e]
      exact hmg0
    obtain ⟨fd, hb, hF⟩ := K74.facts (P := (PySem.Challenge.rw_wordkinds_k74_forms_as_structures).prog) (w := w) KX G hmg c K74.math
    exact ⟨K, fd, DL.spLawD K, KX, hb, fun H a ns hl _ hS => ⟨a, ns, rfl, hS, hl, fun _ => rfl⟩, hF⟩

