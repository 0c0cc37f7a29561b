import PyProof.Rows.All
import HandS.ForMost
import HandS.Deep
import HandS.More
import KE.KDictKeyed
import KE.KDictCopyH
import KE.KDictSum
import KE.SortData
import HandS.TupAny
import HandS.Style
import HandS.Conv
import HandS.Flow
import HandS.SortOrd
import HandS.SortInts
import KE.LtData
import PyProof.DictUpdate
import PyProof.DictDisplay
import PyProof.Transfer
import KE.KDictWalk
import KE.KDictDisplayH
import PyProof.TupleOfSeq
import HandS.Defaults
import HandS.Head0
import HandS.Head1
import HandS.Head2
import HandS.HeadEnd
import HandS.HeadHook1
import HandS.HeadHook2
import PySem.Challenge.RW_wordkinds_k84_orders_that_say_the_same
set_option Elab.async false
set_option linter.all false
set_option maxRecDepth 100000
/-! DN0: dicts whose keys are tuples of tuples. -/
namespace DL
open PySem PySem.Spec L2
open PyProof.Rows hiding St
mutual
/-- v, in H, is the key -/
inductive NAt (H : Hp) : NestedKey → V → Prop
  | none : NAt H .none .non
  | num (i : Int) : NAt H (.num i) (.int i)
  | text (x : Str) : NAt H (.text x) (.str x)
  | tup {b : Addr} {vs : List V} {ks : List NestedKey} : H b = some (.tup vs) → NAtL H ks vs → NAt H (.tup ks) (.ref b)
inductive NAtL (H : Hp) : List NestedKey → List V → Prop
  | nil : NAtL H [] []
  | cons {k : NestedKey} {ks : List NestedKey} {v : V} {vs : List V} : NAt H k v → NAtL H ks vs → NAtL H (k :: ks) (v :: vs)
end
section
variable {P : Program} {w : World} {H H' : Hp} {h : Heap}
mutual
theorem NAt.mono (s : ∀ a o, H a = some o → H' a = some o) : ∀ {k : NestedKey} {v : V}, NAt H k v → NAt H' k v
  | _, _, .none => .none
  | _, _, .num i => .num i
  | _, _, .text x => .text x
  | _, _, .tup e t => .tup (s _ _ e) (NAtL.mono s t)
theorem NAtL.mono (s : ∀ a o, H a = some o → H' a = some o) : ∀ {ks : List NestedKey} {vs : List V}, NAtL H ks vs → NAtL H' ks vs
  | _, _, .nil => .nil
  | _, _, .cons a t => .cons (NAt.mono s a) (NAtL.mono s t)
end
mutual
theorem NAt.is (ok : HOk P w H h) : ∀ {k : NestedKey} {v : V} {u : Value}, NAt H k v → RelV v u → NestedIs h k u
  | _, _, u, .none, r => by
    obtain rfl : u = Value.none := r
    exact .none
  | _, _, u, .num i, r => by
    obtain ⟨t, rfl⟩ := (show ∃ t, u = Value.int i t from r)
    exact .int i t
  | _, _, u, .text x, r => by
    obtain ⟨t, rfl⟩ := (show ∃ t, u = Value.str x t from r)
    exact .text x t
  | _, _, u, .tup (vs := vs) e t, r => by
    obtain rfl : u = Value.ref _ := r
    obtain ⟨_, its, rv, o, h1, h2, n, h3⟩ := (show ObjOk P w H h _ (.tup vs) from ok _ _ e)
    exact .tup h1 h2 h3 (by simpa using NAtL.is ok t rv)
theorem NAtL.is (ok : HOk P w H h) : ∀ {ks : List NestedKey} {vs : List V} {us : List Value}, NAtL H ks vs → Vals vs us → NestedAll h ks us
  | _, _, _, .nil, r => by cases r; exact .nil
  | _, _, _, .cons a t, r => by
    cases r with
    | cons r1 r2 => exact .cons (NAt.is ok a r1) (NAtL.is ok t r2)
end
end
/-- key, where its tuple stands, value -/
abbrev NE := NestedKey × Addr × V
abbrev NT : List NE → List (NestedKey × Addr × Value) → Prop := Paired fun p q => p.1 = q.1 ∧ p.2.1 = q.2.1 ∧ RelV p.2.2 q.2.2
def valN (es : List NE) (k : NestedKey) : Option V := valV (es.map fun x => (x.1, x.2.2)) k
def putN (es : List NE) (k : NestedKey) (b : Addr) (v : V) : List NE := if (valN es k).isSome then es.map (fun x => if x.1 = k then (x.1, x.2.1, v) else x) else es ++ [(k, b, v)]
/-- a dict with such keys -/
def DnO (P : Program) (w : World) (a : Addr) (es : List NE) : HO := .ext fun h => es.length ≤ sizeLine ∧ (a == sysModules) = false ∧ ∃ xs : List (NestedKey × Addr × Value), NT es xs ∧
  ∃ o ds ep, h.get? a = some o ∧ o.ExactDict ∧ o.data = .dict ds ep ∧ ds.toList = xs.map (entryOfKey (nestedKind P w)) ∧ (xs.map (·.1)).Nodup
def KsN (H : Hp) (es : List NE) : Prop := ∀ x ∈ es, NAt H x.1 (.ref x.2.1) ∧ x.1.depth ≤ 8
theorem NT.val {es : List NE} {xs : List (NestedKey × Addr × Value)} (r : NT es xs) (k : NestedKey) : RelO (valN es k) ((atKey xs k).map (·.2)) := by
  unfold valN
  induction r with
  | nil => exact True.intro
  | @cons p q ps qs h t ih =>
    obtain ⟨h1, _, h2⟩ := h
    by_cases e : p.1 = k
    · have e' : q.1 = k := h1.symm.trans e
      have b : atKey (q :: qs) k = some q.2 := by simp [atKey, List.find?_cons, e']
      rw [List.map_cons, valV_pos (p := (p.1, p.2.2)) e, b]; exact h2
    · have e' : ¬ q.1 = k := fun z => e (h1.trans z)
      have b : atKey (q :: qs) k = atKey qs k := by simp [atKey, List.find?_cons, e']
      rw [List.map_cons, valV_neg (p := (p.1, p.2.2)) e, b]; exact ih
theorem NT.repl {es : List NE} {xs : List (NestedKey × Addr × Value)} (r : NT es xs) (k : NestedKey) {y : V} {u : Value} (ry : RelV y u) :
    NT (es.map fun x => if x.1 = k then (x.1, x.2.1, y) else x) (xs.map (putAt k u)) := by
  induction r with
  | nil => exact .nil
  | @cons p q ps qs h t ih =>
    rw [List.map_cons, List.map_cons]
    refine .cons ?_ ih
    obtain ⟨h1, h2, h3⟩ := h
    unfold putAt
    by_cases e : p.1 = k
    · rw [if_pos e, if_pos (h1.symm.trans e)]; exact ⟨h1, h2, ry⟩
    · rw [if_neg e, if_neg (fun z => e (h1.trans z))]; exact ⟨h1, h2, h3⟩
theorem NT.put {es : List NE} {xs : List (NestedKey × Addr × Value)} (r : NT es xs) (k : NestedKey) (b : Addr) {y : V} {u : Value} (ry : RelV y u) : NT (putN es k b y) (storedH xs k b u) := by
  have e : (valN es k).isSome = (atKey xs k).isSome := by rw [(r.val k).isSome_eq, Option.isSome_map]
  unfold putN storedH
  rw [e]
  by_cases q : (atKey xs k).isSome = true
  · rw [if_pos q, if_pos q]; exact r.repl k ry
  · rw [if_neg q, if_neg q]; exact Paired.snoc r ⟨rfl, rfl, ry⟩
theorem putN_le (es : List NE) (k : NestedKey) (b : Addr) (v : V) : (putN es k b v).length ≤ es.length + 1 := by
  unfold putN
  split
  · rw [List.length_map]; omega
  · rw [List.length_append]; exact Nat.le_refl _
section
variable {P : Program} {w : World} {H : Hp} {h : Heap} {a : Addr} {es : List NE}
theorem dn_rd (ok : HOk P w H h) (e : Rd H a (DnO P w a es)) (ks : KsN H es) : es.length ≤ sizeLine ∧ (a == sysModules) = false ∧ ∃ xs, NT es xs ∧ h.DictOfH (nestedKind P w) a xs := by
  obtain ⟨⟨z, y, xs, r, o, ds, ep, h1, h2, h3, h4, h5⟩, _⟩ := (show ObjOk P w H h a (DnO P w a es) from rd_of ok e)
  refine ⟨z, y, xs, r, o, ds, ep, h1, h2, h3, h4, fun x hx => ?_, h5⟩
  have all : ∀ {l : List NE} {m : List (NestedKey × Addr × Value)}, NT l m → KsN H l → ∀ x ∈ m, (nestedKind P w).is h x.1 x.2.1 := by
    intro l m q
    induction q with
    | nil => intro _ x hx; exact nomatch hx
    | @cons p q ps qs hq t ih =>
      intro kk x hx
      rcases List.mem_cons.mp hx with e | hx
      · subst e
        obtain ⟨k1, k2⟩ := kk p List.mem_cons_self
        exact ⟨by rw [← hq.1, ← hq.2.1]; exact k1.is ok rfl, by rw [← hq.1]; exact k2⟩
      · exact ih (fun y hy => kk y (List.mem_cons_of_mem _ hy)) x hx
  exact all r ks x hx
theorem dn_new {H' : Hp} {h' : Heap} {xs : List (NestedKey × Addr × Value)} (z : es.length ≤ sizeLine) (hd : (a == sysModules) = false) (rel : NT es xs) (dd : ∃ o ds ep, h'.get? a = some o ∧ o.ExactDict ∧ o.data = .dict ds ep ∧ ds.toList = xs.map (entryOfKey (nestedKind P w)) ∧ (xs.map (·.1)).Nodup) :
    ObjOk P w H' h' a (DnO P w a es) := by
  obtain ⟨o, ds, ep, h1, h2⟩ := dd
  refine ⟨⟨z, hd, xs, rel, o, ds, ep, h1, h2⟩, ⟨o, h1⟩, fun g1 g2 ⟨z1, z2, ys, r, o', ds', ep', q1, q2⟩ st => ⟨z1, z2, ys, r, o', ds', ep', st _ q1, q2⟩⟩
theorem dn_empty (h : Heap) (hb : sysModules < h.objs.size) : ObjOk P w H (h.push { cls := .type "dict", data := .dict #[] }) h.objs.size (DnO P w h.objs.size []) :=
  dn_new (Nat.zero_le _) (beq_eq_false_iff_ne.mpr (Ne.symm (Nat.ne_of_lt hb))) .nil ⟨_, #[], 0, Heap.get?_push_size _ rfl, ⟨rfl, rfl, rfl⟩, rfl, rfl, List.nodup_nil⟩
end
/-- what the dict at a holds at the key y -/
def DGetN (P : Program) (w : World) (H : Hp) (a : Addr) (y : V) (r : Option V) : Prop := ∃ es k b, Rd H a (DnO P w a es) ∧ KsN H es ∧ y = .ref b ∧ NAt H k (.ref b) ∧ k.depth ≤ 8 ∧ r = valN es k
def DPutN (P : Program) (w : World) (H : Hp) (a : Addr) (y v : V) (H' : Hp) : Prop := ∃ es k b, H a = some (DnO P w a es) ∧ KsN H es ∧ y = .ref b ∧ NAt H k (.ref b) ∧ k.depth ≤ 8 ∧ es.length < sizeLine ∧ H' = upd H a (DnO P w a (putN es k b v))
section
variable {X : Cx} {pins : List (Addr × Obj)} {σ : L2.St} {H : Hp} {s : Shared} {a : Addr} {y v d : V} {u r : Value} {o : Option V} {A : Around} {E : Value → Shared → Prop}
theorem dn_typeIs (I : Inv X pins σ H s) (g : DGetN X.prog X.w H a y o) : s.TypeIs (.ref a) "dict" ∧ (∀ b, Value.ref a = .ref b → ∃ ob, s.heap.get? b = some ob ∧ ob.dict = none) := by
  obtain ⟨es, k, b, e, ks, _⟩ := g
  obtain ⟨_, _, xs, _, dd⟩ := dn_rd I.hok e ks
  refine ⟨dd.typeIs, fun b q => ?_⟩
  cases q
  obtain ⟨ob, _, _, h1, h2, _⟩ := dd
  exact ⟨ob, h1, h2.2.1⟩
theorem dn_getItem {Q : Value → Shared → Prop} (hu : A.units + 64 < cLine) (I : Inv X pins σ H s) (g : DGetN X.prog X.w H a y (some v)) (ry : RelV y u) (h : ∀ w' s', Inv X pins σ H s' → RelV v w' → Q w' s') :
    wpAny (model X.prog X.w) A (getItem (.ref a) u) Q E s := by
  obtain ⟨es, k, b, e, ks, ey, ek, kd, l⟩ := g
  subst ey
  cases (show u = Value.ref b from ry)
  obtain ⟨z, hd, xs, rel, dd⟩ := dn_rd I.hok e ks
  obtain ⟨w', hw, rw'⟩ := RelO.some_of (v := v) (o := (atKey xs k).map (·.2)) (by rw [l]; exact rel.val k)
  obtain ⟨p, hp, hp2⟩ := Option.map_eq_some_iff.mp hw
  refine wpAny_getItem_heap (knd := nestedKind X.prog X.w) (show A.in1.units + 8 < cLine by simp only [Around.in1_units]; omega) ⟨ek.is I.hok rfl, kd⟩ dd hp ?_
  rw [hp2]
  exact h w' _ (I.tok _) rw'
theorem dn_get2 {Q : Value → Shared → Prop} (hu : A.units + 64 < cLine) (I : Inv X pins σ H s) (g : DGetN X.prog X.w H a y o) (ry : RelV y u) (rd : RelV d r) (h : ∀ w' s', Inv X pins σ H s' → RelV (o.getD d) w' → Q w' s') :
    wpAny (model X.prog X.w) A (call (.builtin "dict.get") [.ref a, u, r]) Q E s := by
  obtain ⟨es, k, b, e, ks, ey, ek, kd, l⟩ := g
  subst ey
  cases (show u = Value.ref b from ry)
  obtain ⟨z, hd, xs, rel, dd⟩ := dn_rd I.hok e ks
  refine call_meetsIn PySem.F.slot_dict_get dd.typeIs PySem.F.entry_dict_get (PySem.F.args_dict_get_3 _ _ _) (meetsH_dict_get_default (nestedKind X.prog X.w) a b hd r) ⟨(show A.in1.units + 8 < cLine by simp only [Around.in1_units]; omega), k, xs, ⟨ek.is I.hok rfl, kd⟩, dd, h _ _ (I.tok _) ?_⟩
  rw [l]
  exact (rel.val k).getD rd
theorem dn_setItem {H' : Hp} {Q : Unit → Shared → Prop} (hu : A.units + 64 < cLine) (I : Inv X pins σ H s) (g : DPutN X.prog X.w H a y v H') (ry : RelV y u) (rv : RelV v r) (h : ∀ s', Inv X pins σ H' s' → Q () s') :
    wpAny (model X.prog X.w) A (setItem (.ref a) u r) Q E s := by
  obtain ⟨es, k, b, e, ks, ey, ek, kd, l, eH⟩ := g
  subst ey eH
  cases (show u = Value.ref b from ry)
  obtain ⟨z, hd, xs, rel, dd⟩ := dn_rd I.hok (.inl e) ks
  have hz : xs.length ≤ sizeLine := by rw [← Paired.length rel]; exact z
  have hl : (putN es k b v).length ≤ sizeLine := by have := putN_le es k b v; omega
  refine wpAny_setItem_heap (knd := nestedKind X.prog X.w) (hsz := hz) (show A.in1.units + 8 < cLine by simp only [Around.in1_units]; omega) ⟨ek.is I.hok rfl, kd⟩ dd fun h' dd' hs => h _ ?_
  obtain ⟨q, ds, ep, hq, h2, h3, h4, _, h5⟩ := dd'
  exact d_write I (by rw [e]; exact True.intro) hs ⟨q, hq⟩ (dn_new hl hd (rel.put k b rv) ⟨q, ds, ep, hq, h2, h3, h4, h5⟩)
end
def tDGetN (P : Program) (w : World) (td ty : TE) : TE := fun σ H Q => td σ H fun x H1 => ty σ H1 fun y H2 => ∃ a v, x = .ref a ∧ DGetN P w H2 a y (some v) ∧ Q v H2
def sDPutN (P : Program) (w : World) (td ty tv : TE) : TS := fun D σ H => tv σ H fun v H1 => td σ H1 fun x H2 => ty σ H2 fun y H3 => ∃ a H4, x = .ref a ∧ DPutN P w H3 a y v H4 ∧ D.nx σ H4
def IsN (P : Program) (w : World) (H : Hp) (a : Addr) : Prop := ∃ es, Rd H a (DnO P w a es) ∧ KsN H es
def tDGet2N (P : Program) (w : World) (td ty tx : TE) : TE := fun σ H Q => td σ H fun x H1 => ∃ a, x = .ref a ∧ IsN P w H1 a ∧ ty σ H1 fun y H2 => tx σ H2 fun z H3 => ∃ o, DGetN P w H3 a y o ∧ Q (o.getD z) H3
def tDNewN (P : Program) (w : World) : TE := fun _ H Q => ∀ p, H p = none → Q (.ref p) (upd H p (DnO P w p []))
section
variable {X : Cx} {o i e f value : Expr} {pos pos' tpos apos cpos : Pos} {td ty tv tx : TE}
theorem pe_dnewN : PE X (.Dict [] [] pos) (tDNewN X.prog X.w) := ⟨fun pins s σ H Q I h =>
  wpAny_Dict_empty ⟨.ref s.heap.objs.size, _, I.laid (a := s.heap.objs.size) (o := DnO X.prog X.w s.heap.objs.size []) (t' := s.toks) (fun _ _ q => Heap.get?_push_of_some _ q) (Nat.le_refl _) (dn_empty s.heap I.big), rfl, h _ (I.hok.fresh (Nat.le_refl _))⟩⟩
theorem ps_dputN (hu : X.A.units + 64 < cLine) (ho : PE X o td) (hi : PE X i ty) (hv : PE X value tv) (hs : swapsWith value (some (.Subscript o i pos')) pos.line X.env = pure false) :
    PS X (.Assign [.Subscript o i pos'] value pos) (sDPutN X.prog X.w td ty tv) := by
  refine ⟨fun pins s σ H D I h => ?_⟩
  refine wpAny_Assign_Subscript (thn (hv.run pins s σ H _ I h) fun r s1 ⟨v, H1, I1, rv, q1⟩ => thn (ho.run pins s1 σ H1 _ I1 q1) fun u s2 ⟨x, H2, I2, rx, q2⟩ => thn (hi.run pins s2 σ H2 _ I2 q2) fun iv s3 ⟨y, H3, I3, ry, a, H4, ex, g, q3⟩ => ?_) hs
  subst ex
  obtain rfl : u = Value.ref a := rx
  exact dn_setItem hu I3 g ry rv fun s4 I4 => ⟨σ, H4, I4, q3⟩
theorem isN_at {pins : List (Addr × Obj)} {σ : L2.St} {H : Hp} {s : Shared} {a : Addr} (I : Inv X pins σ H s) (d : IsN X.prog X.w H a) :
    s.TypeIs (.ref a) "dict" ∧ (∀ b, Value.ref a = .ref b → ∃ ob, s.heap.get? b = some ob ∧ ob.dict = none) := by
  obtain ⟨es, e, ks⟩ := d
  obtain ⟨_, _, xs, _, dd⟩ := dn_rd I.hok e ks
  refine ⟨dd.typeIs, fun b q => ?_⟩
  cases q
  obtain ⟨ob, _, _, h1, h2, _⟩ := dd
  exact ⟨ob, h1, h2.2.1⟩
theorem pe_dget2N (hu : X.A.units + 64 < cLine) (ho : PE X o td) (he : PE X e ty) (hf : PE X f tx) (m : M2 X o "get" apos e f cpos) : PE X (.Call (.Attribute o "get" apos) [e, f] [] cpos) (tDGet2N X.prog X.w td ty tx) := by
  refine ⟨fun pins s σ H Q I h => ?_⟩
  refine wpAny_Call_method m.base m.few m.line PySem.F.plainAttrs_dict PySem.F.slot_dict_get PySem.F.type_dict_get (thn (ho.run pins s σ H _ I h) fun u s1 ⟨x, H1, I1, rx, a, ex, d, q1⟩ => ?_)
  subst ex
  obtain rfl : u = Value.ref a := rx
  obtain ⟨t1, t2⟩ := isN_at I1 d
  refine ⟨t1, t2, ?_⟩
  rw [m.trees]
  refine Calls.callWith_builtin rfl (Calls.evalArgs_plain (Calls.spliced_cons (thn (he.run pins s1 σ H1 _ I1 q1) fun iv s2 ⟨y, H2, I2, ry, q2⟩ =>
    Calls.spliced_cons (thn (hf.run pins s2 σ H2 _ I2 q2) fun fv s3 ⟨z, H3, I3, rz, ov, g, q3⟩ => Calls.spliced_nil ?_))))
  exact dn_get2 hu I3 g ry rz fun w' s4 I4 rw' => ⟨_, H3, I4, rw', q3⟩
def rIxN (P : Program) (w : World) : R2 := fun x y H Q => ∃ a v, x = .ref a ∧ DGetN P w H a y (some v) ∧ Q v H
theorem ix_dcn (hu : X.A.units + 64 < cLine) : IxR X (rIxN X.prog X.w) := by
  intro value slice pins s σ H x y v u Q I rx ry h hs
  obtain ⟨a, z, rfl, g, q⟩ := h
  cases rx
  exact PyProof.Rows.tail_any (dn_typeIs I g).1 PySem.F.slot_dict_getitem.lookup (dn_getItem hu I g ry fun w' s' I' r => ⟨z, H, I', r, q⟩) hs
end
end DL

set_option Elab.async false
set_option linter.all false
set_option maxRecDepth 100000
/-! DL1: values as trees, results with draws, what stands in the heap for a tree, the judgements by trees. -/
namespace DL
open PySem PySem.Spec L2
open PyProof.Rows hiding St

/-! ### results: a value, nothing told, or a draw from 0 to below k -/
inductive M (α : Type) where
  | ret (a : α)
  | fail
  | ask (k : Int) (f : Int → M α)
namespace M
def bind {α β : Type} : M α → (α → M β) → M β
  | .ret a, g => g a
  | .fail, _ => .fail
  | .ask k f, g => .ask k fun i => (f i).bind g
instance : Monad M where
  pure := M.ret
  bind := M.bind
def wp {α : Type} : M α → (α → Prop) → Prop
  | .ret a, Q => Q a
  | .fail, _ => False
  | .ask k f, Q => (0 < k ∧ k < 2 ^ 30) ∧ ∀ r, 0 ≤ r → r < k → (f r).wp Q
theorem wp_bind {α β : Type} {m : M α} {g : α → M β} {Q : β → Prop} : (m.bind g).wp Q ↔ m.wp fun a => (g a).wp Q := by
  induction m with
  | ret a => exact Iff.rfl
  | fail => exact Iff.rfl
  | ask k f ih =>
    show ((_ ∧ _) ∧ _) ↔ ((_ ∧ _) ∧ _)
    constructor
    · exact fun ⟨a, b⟩ => ⟨a, fun r h1 h2 => (ih r).mp (b r h1 h2)⟩
    · exact fun ⟨a, b⟩ => ⟨a, fun r h1 h2 => (ih r).mpr (b r h1 h2)⟩
theorem wp_mono {α : Type} {m : M α} {Q Q' : α → Prop} (h : m.wp Q) (hq : ∀ a, Q a → Q' a) : m.wp Q' := by
  induction m with
  | ret a => exact hq a h
  | fail => exact h
  | ask k f ih => exact ⟨h.1, fun r h1 h2 => ih r (h.2 r h1 h2)⟩
theorem wpb {α β : Type} {m : M α} {g : α → M β} {Q : β → Prop} (h : (m >>= g).wp Q) : m.wp fun a => (g a).wp Q := wp_bind.mp h
@[simp] theorem bind_ret {α β : Type} (a : α) (g : α → M β) : (M.ret a >>= g) = g a := rfl
@[simp] theorem bind_fail {α β : Type} (g : α → M β) : ((M.fail : M α) >>= g) = M.fail := rfl
@[simp] theorem pure_ret {α : Type} (a : α) : (pure a : M α) = M.ret a := rfl
theorem bind_assoc' {α β γ : Type} (m : M α) (g : α → M β) (h : β → M γ) : (m.bind g).bind h = m.bind fun a => (g a).bind h := by
  induction m with
  | ret a => rfl
  | fail => rfl
  | ask k f ih => show M.ask k _ = M.ask k _; congr 1; funext i; exact ih i
theorem bind_pure' {α : Type} (m : M α) : m.bind M.ret = m := by
  induction m with
  | ret a => rfl
  | fail => rfl
  | ask k f ih => show M.ask k _ = M.ask k _; congr 1; funext i; exact ih i
instance : LawfulMonad M := LawfulMonad.mk' M (id_map := fun x => bind_pure' x) (pure_bind := fun _ _ => rfl) (bind_assoc := fun m g h => bind_assoc' m g h)
theorem wp_ret {α : Type} {a : α} {Q : α → Prop} : (M.ret a).wp Q ↔ Q a := Iff.rfl
theorem wp_pure {α : Type} {a : α} {Q : α → Prop} : (pure a : M α).wp Q ↔ Q a := Iff.rfl
/-- a result of which something is asked -/
def guard (b : Bool) : M Unit := if b then .ret () else .fail
theorem wp_guard {b : Bool} {Q : Unit → Prop} (h : (guard b).wp Q) : b = true ∧ Q () := by
  cases b with
  | true => exact ⟨rfl, h⟩
  | false => exact h.elim
def opt {α : Type} : Option α → M α
  | some a => .ret a
  | none => .fail
theorem wp_opt {α : Type} {o : Option α} {Q : α → Prop} (h : (opt o).wp Q) : ∃ a, o = some a ∧ Q a := by
  cases o with
  | some a => exact ⟨a, rfl, h⟩
  | none => exact h.elim
end M

/-! ### trees -/
inductive D where
  | non | bl (b : Bool) | int (i : Int) | str (x : Str) | tup (xs : List D) | lst (xs : List D) | dct (t : Bool) (kvs : List (D × D)) | dcn (kvs : List (D × D)) | stt
/-- a list, a dict: what may be changed -/
def D.mut : D → Bool
  | .lst _ => true
  | .dct _ _ => true
  | .dcn _ => true
  | _ => false

/-- where the law's own state stands: the pair, its list of cells -/
structure SA where
  sa : Addr
  ca : Addr
  pr : Program
  wd : World

/-- a dict's key, an int or a text -/
def KeyD (d : D) (k : Key) : Prop := (∃ i, d = .int i ∧ k = .inl i) ∨ ∃ x, d = .str x ∧ k = .inr x ∧ PyData.strOk x = true ∧ x.length ≤ sizeLine
def KeysD : List D → List Key → Prop
  | [], [] => True
  | d :: ds, k :: ks => KeyD d k ∧ KeysD ds ks
  | _, _ => False
mutual
/-- a tree as a key, nested -/
def D.nk : D → Option NestedKey
  | .non => some .none
  | .int i => some (.num i)
  | .str x => some (.text x)
  | .tup xs => (D.nkL xs).map .tup
  | .bl _ => none
  | .lst _ => none
  | .dct _ _ => none
  | .dcn _ => none
  | .stt => none
def D.nkL : List D → Option (List NestedKey)
  | [] => some []
  | x :: xs => match D.nk x, D.nkL xs with
    | some k, some ks => some (k :: ks)
    | _, _ => none
end
mutual
/-- v, read in F, is the tree d -/
inductive Rp (S : SA) (F : Hp) : D → V → Prop
  | non : Rp S F .non .non
  | bl (b : Bool) : Rp S F (.bl b) (.bl b)
  | int (i : Int) : Rp S F (.int i) (.int i)
  | str (x : Str) : PyData.strOk x = true → x.length ≤ sizeLine → Rp S F (.str x) (.str x)
  | tup {a : Addr} {xs : List D} {vs : List V} : F a = some (.tup vs) → RpL S F xs vs → vs.length ≤ sizeLine → Rp S F (.tup xs) (.ref a)
  | lst {a : Addr} {xs : List D} {vs : List V} : F a = some (.lst vs) → RpL S F xs vs → vs.length ≤ sizeLine → Rp S F (.lst xs) (.ref a)
  | dctK {a : Addr} {o : Obj} {kvs : List (D × D)} {es : List (Key × V)} : F a = some (.frz o (.dK es)) → RpK S F kvs es → es.length ≤ sizeLine → Rp S F (.dct false kvs) (.ref a)
  | dctT {a : Addr} {o : Obj} {kvs : List (D × D)} {es : List (List Key × V)} : F a = some (.frz o (.dT es)) → RpT S F kvs es → es.length ≤ sizeLine → Rp S F (.dct true kvs) (.ref a)
  | dcn {a : Addr} {o : Obj} {kvs : List (D × D)} {es : List NE} : F a = some (.frz o (DnO S.pr S.wd a es)) → RpN S F kvs es → es.length ≤ sizeLine → Rp S F (.dcn kvs) (.ref a)
  | stt : Rp S F .stt (.ref S.sa)
inductive RpL (S : SA) (F : Hp) : List D → List V → Prop
  | nil : RpL S F [] []
  | cons {d : D} {ds : List D} {v : V} {vs : List V} : Rp S F d v → RpL S F ds vs → RpL S F (d :: ds) (v :: vs)
inductive RpK (S : SA) (F : Hp) : List (D × D) → List (Key × V) → Prop
  | nil : RpK S F [] []
  | cons {kd d : D} {kvs : List (D × D)} {k : Key} {v : V} {es : List (Key × V)} : KeyD kd k → Rp S F d v → RpK S F kvs es → RpK S F ((kd, d) :: kvs) ((k, v) :: es)
inductive RpT (S : SA) (F : Hp) : List (D × D) → List (List Key × V) → Prop
  | nil : RpT S F [] []
  | cons {kds : List D} {d : D} {kvs : List (D × D)} {ks : List Key} {v : V} {es : List (List Key × V)} : KeysD kds ks → Rp S F d v → RpT S F kvs es → RpT S F ((.tup kds, d) :: kvs) ((ks, v) :: es)
inductive RpN (S : SA) (F : Hp) : List (D × D) → List NE → Prop
  | nil : RpN S F [] []
  | cons {kd d : D} {kvs : List (D × D)} {k : NestedKey} {b : Addr} {v : V} {es : List NE} : Rp S F kd (.ref b) → D.nk kd = some k → k.depth ≤ 8 → Rp S F d v → RpN S F kvs es → RpN S F ((kd, d) :: kvs) ((k, b, v) :: es)
end
/-- F' holds what F holds -/
def Sub (F F' : Hp) : Prop := ∀ a o, F a = some o → F' a = some o
theorem Sub.refl (F : Hp) : Sub F F := fun _ _ h => h
theorem Sub.trans {F F1 F2 : Hp} (a : Sub F F1) (b : Sub F1 F2) : Sub F F2 := fun c o h => b c o (a c o h)
theorem Sub.no {F F' : Hp} (s : Sub F F') {a : Addr} (h : F' a = none) : F a = none := by
  cases q : F a with
  | none => rfl
  | some o => rw [s a o q] at h; cases h
theorem sub_upd {F : Hp} {a : Addr} {o : HO} (h : F a = none) : Sub F (upd F a o) := fun b x e => by rw [upd_ne (ne_of_none e h)]; exact e
section
variable {S : SA} {F F' : Hp}
mutual
theorem Rp.mono (s : Sub F F') : ∀ {d : D} {v : V}, Rp S F d v → Rp S F' d v
  | _, _, .non => .non
  | _, _, .bl b => .bl b
  | _, _, .int i => .int i
  | _, _, .str x h z => .str x h z
  | _, _, .tup h r z => .tup (s _ _ h) (RpL.mono s r) z
  | _, _, .lst h r z => .lst (s _ _ h) (RpL.mono s r) z
  | _, _, .dctK h r z => .dctK (s _ _ h) (RpK.mono s r) z
  | _, _, .dctT h r z => .dctT (s _ _ h) (RpT.mono s r) z
  | _, _, .dcn h r z => .dcn (s _ _ h) (RpN.mono s r) z
  | _, _, .stt => .stt
theorem RpL.mono (s : Sub F F') : ∀ {ds : List D} {vs : List V}, RpL S F ds vs → RpL S F' ds vs
  | _, _, .nil => .nil
  | _, _, .cons h t => .cons (Rp.mono s h) (RpL.mono s t)
theorem RpK.mono (s : Sub F F') : ∀ {ds : List (D × D)} {vs : List (Key × V)}, RpK S F ds vs → RpK S F' ds vs
  | _, _, .nil => .nil
  | _, _, .cons k h t => .cons k (Rp.mono s h) (RpK.mono s t)
theorem RpT.mono (s : Sub F F') : ∀ {ds : List (D × D)} {vs : List (List Key × V)}, RpT S F ds vs → RpT S F' ds vs
  | _, _, .nil => .nil
  | _, _, .cons k h t => .cons k (Rp.mono s h) (RpT.mono s t)
theorem RpN.mono (s : Sub F F') : ∀ {ds : List (D × D)} {vs : List NE}, RpN S F ds vs → RpN S F' ds vs
  | _, _, .nil => .nil
  | _, _, .cons k n l h t => .cons (Rp.mono s k) n l (Rp.mono s h) (RpN.mono s t)
end
theorem RpL.len : ∀ {ds : List D} {vs : List V}, RpL S F ds vs → ds.length = vs.length
  | _, _, .nil => rfl
  | _, _, .cons _ t => congrArg (· + 1) (RpL.len t)
theorem RpL.get : ∀ {ds : List D} {vs : List V} {i : Nat} {d : D}, RpL S F ds vs → ds[i]? = some d → ∃ v, vs[i]? = some v ∧ Rp S F d v
  | _, _, _, _, .nil, e => by simp at e
  | _, _, 0, _, .cons r _, e => by simp at e; subst e; exact ⟨_, rfl, r⟩
  | _, _, i + 1, d, .cons _ t, e => by
    obtain ⟨u, h1, h2⟩ := RpL.get (i := i) (d := d) t (by simpa using e)
    exact ⟨u, by simpa using h1, h2⟩
theorem RpL.append : ∀ {ds es : List D} {vs us : List V}, RpL S F ds vs → RpL S F es us → RpL S F (ds ++ es) (vs ++ us)
  | _, _, _, _, .nil, s => s
  | _, _, _, _, .cons r t, s => .cons r (RpL.append t s)
theorem RpL.take : ∀ {ds : List D} {vs : List V} (n : Nat), RpL S F ds vs → RpL S F (ds.take n) (vs.take n)
  | _, _, 0, _ => .nil
  | _, _, _ + 1, .nil => .nil
  | _, _, n + 1, .cons r t => .cons r (RpL.take n t)
theorem RpL.drop : ∀ {ds : List D} {vs : List V} (n : Nat), RpL S F ds vs → RpL S F (ds.drop n) (vs.drop n)
  | _, _, 0, r => r
  | _, _, _ + 1, .nil => .nil
  | _, _, n + 1, .cons _ t => RpL.drop n t
theorem RpL.set {d : D} {v : V} (r : Rp S F d v) : ∀ {ds : List D} {vs : List V} (i : Nat), RpL S F ds vs → RpL S F (ds.set i d) (vs.set i v)
  | _, _, _, .nil => .nil
  | _, _, 0, .cons _ t => .cons r t
  | _, _, i + 1, .cons q t => .cons q (RpL.set r i t)
theorem RpL.eraseIdx : ∀ {ds : List D} {vs : List V} (i : Nat), RpL S F ds vs → RpL S F (ds.eraseIdx i) (vs.eraseIdx i)
  | _, _, _, .nil => .nil
  | _, _, 0, .cons _ t => t
  | _, _, i + 1, .cons q t => .cons q (RpL.eraseIdx i t)
theorem RpL.reverse : ∀ {ds : List D} {vs : List V}, RpL S F ds vs → RpL S F ds.reverse vs.reverse
  | _, _, .nil => .nil
  | _, _, .cons r t => by rw [List.reverse_cons, List.reverse_cons]; exact RpL.append (RpL.reverse t) (.cons r .nil)
end

/-! ### the frame's names by trees: a value that stands still, a list of this frame's own, or one that is only looked at -/
inductive Sl where
  | val (d : D)
  | own (d : D)
  | bor (d : D)
abbrev DEnv := List (Option Sl)
/-- what stands at p, its own list, is d -/
def OwnR (S : SA) (F H : Hp) (p : Addr) : D → Prop
  | .lst xs => ∃ vs, H p = some (.lst vs) ∧ RpL S F xs vs ∧ vs.length ≤ sizeLine
  | .dct false kvs => ∃ es, H p = some (.dK es) ∧ RpK S F kvs es ∧ es.length ≤ sizeLine
  | .dct true kvs => ∃ es, H p = some (.dT es) ∧ RpT S F kvs es ∧ es.length ≤ sizeLine
  | .dcn kvs => ∃ es, H p = some (DnO S.pr S.wd p es) ∧ RpN S F kvs es ∧ es.length ≤ sizeLine
  | _ => False
def BorR (S : SA) (G F : Hp) (d : D) (v : V) : Prop := Rp S F d v ∨ ∃ a, v = .ref a ∧ OwnR S F G a d
def SlotR (S : SA) (G F H : Hp) (σ : L2.St) (i : Nat) : Sl → Prop
  | .val d => ∃ v, σ[i]? = some (some v) ∧ Rp S F d v
  | .own d => ∃ a, σ[i]? = some (some (.ref a)) ∧ G a = none ∧ a ≠ S.sa ∧ a ≠ S.ca ∧ OwnR S F H a d
  | .bor d => ∃ v, σ[i]? = some (some v) ∧ BorR S G F d v
/-- the law's own state stands and may be turned -/
def StOk (S : SA) (H : Hp) : Prop := S.sa ≠ S.ca ∧ ∃ (n : Nat) (cs : List Int), H S.sa = some (.lst [.int n, .ref S.ca]) ∧ H S.ca = some (.lst (cs.map V.int)) ∧ 0 < cs.length
structure Good (S : SA) (G F : Hp) (σ : L2.St) (H : Hp) (env : DEnv) : Prop where
  kp : Sub G H
  fg : Sub F G
  st : StOk S H
  ns : G S.sa = none
  nc : G S.ca = none
  len : σ.length = env.length
  slot : ∀ (i : Nat) (sl : Sl), env[i]? = some (some sl) → SlotR S G F H σ i sl
  dist : ∀ (i j : Nat) (di dj : D) (a : Addr), env[i]? = some (some (.own di)) → env[j]? = some (some (.own dj)) → σ[i]? = some (some (.ref a)) → σ[j]? = some (some (.ref a)) → i = j
/-- more is kept, more may be read; what may be read now and could not was not kept before -/
structure Ext (G F G' F' : Hp) : Prop where
  g : Sub G G'
  f : Sub F F'
  n : ∀ a, F a = none → G a ≠ none → F' a = none
theorem Ext.refl (G F : Hp) : Ext G F G F := ⟨Sub.refl _, Sub.refl _, fun _ h _ => h⟩
theorem Ext.trans {G F G1 F1 G2 F2 : Hp} (a : Ext G F G1 F1) (b : Ext G1 F1 G2 F2) : Ext G F G2 F2 :=
  ⟨a.g.trans b.g, a.f.trans b.f, fun c h h' => b.n c (a.n c h h') fun z => h' (a.g.no z)⟩

/-- v is d, as it stands: still, or at a name of this frame -/
def RdB (S : SA) (F : Hp) (σ : L2.St) (env : DEnv) (d : D) (v : V) : Prop := Rp S F d v ∨ ∃ i : Nat, (env[i]? = some (some (.own d)) ∨ env[i]? = some (some (.bor d))) ∧ σ[i]? = some (some v)
def FreshR (S : SA) (G F : Hp) (σ : L2.St) (H : Hp) (env : DEnv) (p : Addr) (d : D) : Prop :=
  G p = none ∧ p ≠ S.sa ∧ p ≠ S.ca ∧ (∀ (i : Nat) (di : D), env[i]? = some (some (.own di)) → σ[i]? ≠ some (some (.ref p))) ∧ OwnR S F H p d

def Post (S : SA) (G F : Hp) (σ : L2.St) (env : DEnv) (Q : VK) (d : D) : Prop := ∀ v G' F' H', Ext G F G' F' → Good S G' F' σ H' env → Rp S F' d v → Q v H'
def PostB (S : SA) (G F : Hp) (σ : L2.St) (env : DEnv) (Q : VK) (d : D) : Prop := ∀ v G' F' H', Ext G F G' F' → Good S G' F' σ H' env → RdB S F' σ env d v → Q v H'
def PostF (S : SA) (G F : Hp) (σ : L2.St) (env : DEnv) (Q : VK) (d : D) : Prop := ∀ p G' F' H', Ext G F G' F' → Good S G' F' σ H' env → FreshR S G' F' σ H' env p d → Q (.ref p) H'

abbrev DE := DEnv → M D
def TE_ (S : SA) (m : DE) : TE := fun σ H Q => ∃ G F env, Good S G F σ H env ∧ (m env).wp (Post S G F σ env Q)
def TB_ (S : SA) (m : DE) : TE := fun σ H Q => ∃ G F env, Good S G F σ H env ∧ (m env).wp (PostB S G F σ env Q)
def TF_ (S : SA) (m : DE) : TE := fun σ H Q => ∃ G F env, Good S G F σ H env ∧ (m env).wp (PostF S G F σ env Q)
def QE (S : SA) (X : Cx) (e : Expr) (m : DE) : Prop := PE X e (TE_ S m)
def QB (S : SA) (X : Cx) (e : Expr) (m : DE) : Prop := PE X e (TB_ S m)
def QF (S : SA) (X : Cx) (e : Expr) (m : DE) : Prop := PE X e (TF_ S m)

theorem pe_weak {X : Cx} {e : Expr} {t t' : TE} (h : PE X e t) (w : ∀ σ H Q, t' σ H Q → t σ H Q) : PE X e t' := ⟨fun pins s σ H Q I q => h.run pins s σ H Q I (w σ H Q q)⟩
theorem pt_weak {X : Cx} {e : Expr} {t t' : TT} (h : PT X e t) (w : ∀ σ H Q, t' σ H Q → t σ H Q) : PT X e t' := ⟨fun pins s σ H Q I q => h.run pins s σ H Q I (w σ H Q q)⟩
theorem pa_weak {X : Cx} {es : List Expr} {t t' : TA} (h : PA X es t) (w : ∀ σ H Q, t' σ H Q → t σ H Q) : PA X es t' := ⟨fun pos pins s σ H Q I q => h.run pos pins s σ H Q I (w σ H Q q)⟩
theorem ps_weak {X : Cx} {st : Stmt} {t t' : TS} (h : PS X st t) (w : ∀ D σ H, t' D σ H → t D σ H) : PS X st t' := ⟨fun pins s σ H D I q => h.run pins s σ H D I (w D σ H q)⟩
theorem pss_weak {X : Cx} {st : List Stmt} {t t' : TS} (h : PSs X st t) (w : ∀ D σ H, t' D σ H → t D σ H) : PSs X st t' := ⟨fun pins s σ H D I q => h.run pins s σ H D I (w D σ H q)⟩
theorem pg_weak {X : Cx} {e : Expr} {t t' : TG} (h : PG X e t) (w : ∀ v σ H Q, t' v σ H Q → t v σ H Q) : PG X e t' := ⟨fun pins s σ H v u Q I r q => h.run pins s σ H v u Q I r (w v σ H Q q)⟩
theorem pi_weak {X : Cx} {tg e : Expr} {t t' : TI} (h : PI X tg e t) (w : ∀ σ H R, t' σ H R → t σ H R) : PI X tg e t' := ⟨fun pins s σ H R I q => h.run pins s σ H R I (w σ H R q)⟩

section
variable {S : SA} {G F G' F' H H' : Hp} {σ : L2.St} {env : DEnv} {d : D} {v : V} {p : Addr} {Q : VK}
theorem Good.no (g : Good S G F σ H env) {a : Addr} (h : H a = none) : G a = none := g.kp.no h
theorem Good.fsa (g : Good S G F σ H env) : F S.sa = none := g.fg.no g.ns
theorem Good.fca (g : Good S G F σ H env) : F S.ca = none := g.fg.no g.nc
theorem Good.fh (g : Good S G F σ H env) : Sub F H := g.fg.trans g.kp
/-- a value's object stands in the heap -/
theorem ownR_mono {Ha Hb : Hp} (s : Sub F F') (hp : ∀ o, Ha p = some o → Hb p = some o) : ∀ {d : D}, OwnR S F Ha p d → OwnR S F' Hb p d
  | .lst xs, ⟨vs, h, r, z⟩ => ⟨vs, hp _ h, r.mono s, z⟩
  | .dct false xs, ⟨vs, h, r, z⟩ => ⟨vs, hp _ h, r.mono s, z⟩
  | .dct true xs, ⟨vs, h, r, z⟩ => ⟨vs, hp _ h, r.mono s, z⟩
  | .dcn xs, ⟨vs, h, r, z⟩ => ⟨vs, hp _ h, r.mono s, z⟩
  | .non, h => h.elim
  | .bl _, h => h.elim
  | .int _, h => h.elim
  | .str _, h => h.elim
  | .tup _, h => h.elim
  | .stt, h => h.elim
theorem BorR.mono {G' : Hp} (sg : Sub G G') (s : Sub F F') (h : BorR S G F d v) : BorR S G' F' d v := by
  rcases h with h | ⟨a, e, h⟩
  · exact .inl (h.mono s)
  · exact .inr ⟨a, e, ownR_mono s (fun o z => sg _ _ z) h⟩
theorem ownR_some : ∀ {d : D}, OwnR S F H p d → ∃ o, H p = some o
  | .lst xs, ⟨vs, h, r, z⟩ => ⟨_, h⟩
  | .dct false xs, ⟨vs, h, r, z⟩ => ⟨_, h⟩
  | .dct true xs, ⟨vs, h, r, z⟩ => ⟨_, h⟩
  | .dcn xs, ⟨vs, h, r, z⟩ => ⟨_, h⟩
  | .non, h => h.elim
  | .bl _, h => h.elim
  | .int _, h => h.elim
  | .str _, h => h.elim
  | .tup _, h => h.elim
  | .stt, h => h.elim
theorem ownR_mut : ∀ {d : D}, OwnR S F H p d → d.mut = true
  | .lst xs, _ => rfl
  | .dct false xs, _ => rfl
  | .dct true xs, _ => rfl
  | .dcn xs, _ => rfl
  | .non, h => h.elim
  | .bl _, h => h.elim
  | .int _, h => h.elim
  | .str _, h => h.elim
  | .tup _, h => h.elim
  | .stt, h => h.elim
/-- what stands at p from now on stands still: a list as it is, a dict locked -/
theorem ownR_frz : ∀ {d : D}, F p = none → OwnR S F H p d → (∃ o, H p = some o ∧ Rp S (upd F p o) d (.ref p)) ∨ ∃ u, H p = some u ∧ Mut (some u) ∧ ∀ od, Rp S (upd F p (.frz od u)) d (.ref p)
  | .lst xs, n, ⟨vs, h, r, z⟩ => .inl ⟨_, h, .lst upd_same (r.mono (sub_upd n)) z⟩
  | .dct false xs, n, ⟨vs, h, r, z⟩ => .inr ⟨_, h, trivial, fun od => .dctK upd_same (r.mono (sub_upd n)) z⟩
  | .dct true xs, n, ⟨vs, h, r, z⟩ => .inr ⟨_, h, trivial, fun od => .dctT upd_same (r.mono (sub_upd n)) z⟩
  | .dcn xs, n, ⟨vs, h, r, z⟩ => .inr ⟨_, h, trivial, fun od => .dcn upd_same (r.mono (sub_upd n)) z⟩
  | .non, _, h => h.elim
  | .bl _, _, h => h.elim
  | .int _, _, h => h.elim
  | .str _, _, h => h.elim
  | .tup _, _, h => h.elim
  | .stt, _, h => h.elim
/-- the heap grows by a new object at p (or one that is nobody's), all else stands -/
theorem Good.grow (g : Good S G F σ H env) (hk : Sub H H') : Good S G F σ H' env :=
  ⟨g.kp.trans hk, g.fg, ⟨g.st.1, let ⟨n, cs, h1, h2, h3⟩ := g.st.2; ⟨n, cs, hk _ _ h1, hk _ _ h2, h3⟩⟩, g.ns, g.nc, g.len, fun i sl e => by
    have q := g.slot i sl e
    cases sl with
    | val d => exact q
    | bor d => exact q
    | own d =>
      obtain ⟨a, h1, h2, h3, h4, h5⟩ := q
      exact ⟨a, h1, h2, h3, h4, ownR_mono (Sub.refl _) (fun o z => hk _ _ z) h5⟩, g.dist⟩
/-- .. and is from now on kept and read -/
theorem Good.frz {o : HO} (g : Good S G F σ H env) (hp : H p = some o) (n : G p = none) (n1 : p ≠ S.sa) (n2 : p ≠ S.ca) (hs : ∀ (i : Nat) (di : D), env[i]? = some (some (.own di)) → σ[i]? ≠ some (some (.ref p))) :
    Good S (upd G p o) (upd F p o) σ H env ∧ Ext G F (upd G p o) (upd F p o) := by
  have nf : F p = none := g.fg.no n
  refine ⟨⟨fun a u e => ?_, fun a u e => ?_, g.st, ?_, ?_, g.len, fun i sl e => ?_, g.dist⟩, ⟨sub_upd n, sub_upd nf, fun a h h' => ?_⟩⟩
  · by_cases z : a = p
    · subst z; rw [upd_same] at e; cases e; exact hp
    · rw [upd_ne z] at e; exact g.kp a u e
  · by_cases z : a = p
    · subst z; rw [upd_same] at e ⊢; exact e
    · rw [upd_ne z] at e ⊢; exact g.fg a u e
  · rw [upd_ne n1.symm]; exact g.ns
  · rw [upd_ne n2.symm]; exact g.nc
  · have q := g.slot i sl e
    cases sl with
    | val d =>
      obtain ⟨v, h1, h2⟩ := q
      exact ⟨v, h1, h2.mono (sub_upd nf)⟩
    | bor d =>
      obtain ⟨v, h1, h2⟩ := q
      exact ⟨v, h1, h2.mono (sub_upd n) (sub_upd nf)⟩
    | own d =>
      obtain ⟨a, h1, h2, h3, h4, h5⟩ := q
      have na : a ≠ p := fun z => hs i d e (by rw [h1, z])
      exact ⟨a, h1, by rw [upd_ne na]; exact h2, h3, h4, ownR_mono (sub_upd nf) (fun o z => z) h5⟩
  · have na : a ≠ p := fun z => h' (by rw [z]; exact n)
    rw [upd_ne na]; exact h
/-- the object at p, that is nobody's, is another one from now on -/
theorem Good.swap {o : HO} (g : Good S G F σ H env) (n : G p = none) (n1 : p ≠ S.sa) (n2 : p ≠ S.ca) (hs : ∀ (i : Nat) (di : D), env[i]? = some (some (.own di)) → σ[i]? ≠ some (some (.ref p))) : Good S G F σ (upd H p o) env := by
  refine ⟨fun a u e => ?_, g.fg, ⟨g.st.1, ?_⟩, g.ns, g.nc, g.len, fun i sl e => ?_, g.dist⟩
  · have na : a ≠ p := fun z => by rw [z, n] at e; cases e
    rw [upd_ne na]; exact g.kp a u e
  · obtain ⟨_, k, cs, h1, h2, h3⟩ := g.st
    exact ⟨k, cs, by rw [upd_ne n1.symm]; exact h1, by rw [upd_ne n2.symm]; exact h2, h3⟩
  · have q := g.slot i sl e
    cases sl with
    | val d => exact q
    | bor d => exact q
    | own d =>
      obtain ⟨a, h1, h2, h3, h4, h5⟩ := q
      have na : a ≠ p := fun z => hs i d e (by rw [h1, z])
      exact ⟨a, h1, h2, h3, h4, ownR_mono (Sub.refl _) (fun o z => by rw [upd_ne na]; exact z) h5⟩
/-- what a fresh object's freezing leaves: the heap as it is, or with the object locked -/
def Lk (p : Addr) (H : Hp) (R : Hp → Prop) : Prop := R H ∨ ∃ u, H p = some u ∧ Mut (some u) ∧ ∀ od, R (upd H p (.frz od u))
theorem Good.frz_own (g : Good S G F σ H env) (f : FreshR S G F σ H env p d) : Lk p H fun H' => ∃ G' F', Ext G F G' F' ∧ Good S G' F' σ H' env ∧ Rp S F' d (.ref p) := by
  obtain ⟨n, n1, n2, hs, ow⟩ := f
  rcases ownR_frz (g.fg.no n) ow with ⟨o, ho, r⟩ | ⟨u, hu, mu, r⟩
  · obtain ⟨g', e⟩ := g.frz ho n n1 n2 hs
    exact .inl ⟨_, _, e, g', r⟩
  · refine .inr ⟨u, hu, mu, fun od => ?_⟩
    obtain ⟨g', e⟩ := (g.swap (o := .frz od u) n n1 n2 hs).frz upd_same n n1 n2 hs
    exact ⟨_, _, e, g', r od⟩
/-- the wish behind, where a new object may be locked first -/
def LkQ (Q : VK) : VK := fun v H => (∃ p, v = .ref p ∧ Lk p H (Q (.ref p))) ∨ Q v H
theorem post_fresh (h : Post S G F σ env Q d) : PostF S G F σ env (LkQ Q) d := fun p G' F' H' e g f => by
  refine .inl ⟨p, rfl, ?_⟩
  rcases g.frz_own f with ⟨G2, F2, e2, g2, r⟩ | ⟨u, hu, mu, k⟩
  · exact .inl (h _ G2 F2 H' (e.trans e2) g2 r)
  · refine .inr ⟨u, hu, mu, fun od => ?_⟩
    obtain ⟨G2, F2, e2, g2, r⟩ := k od
    exact h _ G2 F2 _ (e.trans e2) g2 r
/-- a list needs no lock -/
theorem post_freshL {xs : List D} (h : Post S G F σ env Q (.lst xs)) : PostF S G F σ env Q (.lst xs) := fun p G' F' H' e g f => by
  obtain ⟨n, n1, n2, hs, vs, hp, r, z⟩ := f
  obtain ⟨g', e'⟩ := g.frz hp n n1 n2 hs
  exact h _ _ _ H' (e.trans e') g' (.lst upd_same (r.mono (sub_upd (g.fg.no n))) z)
theorem post_b (h : PostB S G F σ env Q d) : Post S G F σ env Q d := fun v G' F' H' e g r => h v G' F' H' e g (.inl r)
theorem pe_lockQ {X : Cx} {e : Expr} {t : TE} (h : PE X e t) : PE X e (fun σ H Q => t σ H (LkQ Q)) := ⟨fun pins s σ H Q I q => by
  refine thn (h.run pins s σ H _ I q) fun v s' ⟨x, H', I', r, q'⟩ => ?_
  rcases q' with ⟨p, rfl, q' | ⟨u, hu, mu, q'⟩⟩ | q'
  · exact ⟨_, H', I', r, q'⟩
  · obtain ⟨od, I2⟩ := I'.lock hu mu
    exact ⟨_, _, I2, r, q' od⟩
  · exact ⟨x, H', I', r, q'⟩⟩
theorem QF.e {X : Cx} {e : Expr} {m : DE} (h : QF S X e m) : QE S X e m := pe_weak (pe_lockQ h) fun σ H Q ⟨G, F, env, g, q⟩ => ⟨G, F, env, g, M.wp_mono q fun _ => post_fresh⟩
theorem QE.b {X : Cx} {e : Expr} {m : DE} (h : QE S X e m) : QB S X e m := pe_weak h fun σ H Q ⟨G, F, env, g, q⟩ => ⟨G, F, env, g, M.wp_mono q fun _ => post_b⟩
theorem QF.b {X : Cx} {e : Expr} {m : DE} (h : QF S X e m) : QB S X e m := h.e.b
theorem RdB.mono (s : Sub F F') (h : RdB S F σ env d v) : RdB S F' σ env d v := by
  rcases h with h | h
  · exact .inl (h.mono s)
  · exact .inr h
theorem RdB.elim (g : Good S G F σ H env) (h : RdB S F σ env d v) : Rp S F d v ∨ ∃ a, v = .ref a ∧ OwnR S F H a d := by
  rcases h with h | ⟨i, h1 | h1, h2⟩
  · exact .inl h
  · obtain ⟨a, h3, _, _, _, h4⟩ := g.slot i _ h1
    rw [h2] at h3
    cases h3
    exact .inr ⟨_, rfl, h4⟩
  · obtain ⟨u, h3, h4⟩ := g.slot i _ h1
    rw [h2] at h3
    cases h3
    rcases h4 with h4 | ⟨a, e, h4⟩
    · exact .inl h4
    · exact .inr ⟨a, e, ownR_mono (Sub.refl _) (fun o z => g.kp _ _ z) h4⟩
/-- what is read as a list -/
theorem RdB.lst {xs : List D} (g : Good S G F σ H env) (h : RdB S F σ env (.lst xs) v) : ∃ p vs, v = .ref p ∧ H p = some (.lst vs) ∧ RpL S F xs vs ∧ vs.length ≤ sizeLine := by
  rcases h.elim g with h | ⟨a, rfl, vs, h4, h5, h6⟩
  · cases h with
    | lst h1 h2 h3 => exact ⟨_, _, rfl, g.fh _ _ h1, h2, h3⟩
  · exact ⟨_, vs, rfl, h4, h5, h6⟩
theorem RdB.rp (g : Good S G F σ H env) (h : RdB S F σ env d v) (hd : d.mut = false) : Rp S F d v := by
  rcases h.elim g with h | ⟨a, _, h4⟩
  · exact h
  · rw [ownR_mut h4] at hd; cases hd
theorem Rp.tupI {a : Addr} {xs : List D} (h : Rp S F (.tup xs) (.ref a)) : ∃ vs, F a = some (.tup vs) ∧ RpL S F xs vs ∧ vs.length ≤ sizeLine := by
  cases h with
  | tup h1 h2 h3 => exact ⟨_, h1, h2, h3⟩
end
end DL

set_option Elab.async false
set_option linter.all false
set_option maxRecDepth 100000
/-! DL2: expressions by trees. -/
namespace DL
open PySem PySem.Spec L2
open PyProof.Rows hiding St

section
variable {S : SA} {X : Cx} {G F G' F' H H' : Hp} {σ : L2.St} {env : DEnv} {d : D} {v : V} {p : Addr} {Q : VK} {m ma mb mc : DE} {a b c e : Expr} {pos : Pos}
theorem post_shift {G1 F1 : Hp} (x : Ext G F G1 F1) (h : Post S G F σ env Q d) : Post S G1 F1 σ env Q d := fun v G' F' H' e g r => h v G' F' H' (x.trans e) g r
theorem postF_shift {G1 F1 : Hp} (x : Ext G F G1 F1) (h : PostF S G F σ env Q d) : PostF S G1 F1 σ env Q d := fun v G' F' H' e g r => h v G' F' H' (x.trans e) g r
theorem postB_shift {G1 F1 : Hp} (x : Ext G F G1 F1) (h : PostB S G F σ env Q d) : PostB S G1 F1 σ env Q d := fun v G' F' H' e g r => h v G' F' H' (x.trans e) g r
/-- the value at once -/
theorem Post.now (h : Post S G F σ env Q d) (g : Good S G F σ H env) (r : Rp S F d v) : Q v H := h v G F H (Ext.refl _ _) g r
theorem PostB.now (h : PostB S G F σ env Q d) (g : Good S G F σ H env) (r : RdB S F σ env d v) : Q v H := h v G F H (Ext.refl _ _) g r
/-- a new object at p -/
theorem Good.new (g : Good S G F σ H env) (hp : H p = none) (o : HO) : Good S G F σ (upd H p o) env := g.grow (sub_upd hp)
theorem Good.stNe (g : Good S G F σ H env) (hp : H p = none) : p ≠ S.sa ∧ p ≠ S.ca := by
  obtain ⟨_, n, cs, h1, h2, _⟩ := g.st
  refine ⟨fun z => ?_, fun z => ?_⟩
  · rw [z, h1] at hp; cases hp
  · rw [z, h2] at hp; cases hp
theorem Good.ownNe (g : Good S G F σ H env) (hp : H p = none) : ∀ (i : Nat) (di : D), env[i]? = some (some (.own di)) → σ[i]? ≠ some (some (.ref p)) := fun i di e z => by
  obtain ⟨a, h1, _, _, _, h5⟩ := g.slot i _ e
  obtain ⟨o, h6⟩ := ownR_some h5
  rw [z] at h1
  cases h1
  rw [h6] at hp; cases hp
theorem Good.fresh_lst (g : Good S G F σ H env) (hp : H p = none) {xs : List D} {vs : List V} (r : RpL S F xs vs) (z : vs.length ≤ sizeLine) : FreshR S G F σ (upd H p (.lst vs)) env p (.lst xs) :=
  ⟨g.kp.no hp, (g.stNe hp).1, (g.stNe hp).2, g.ownNe hp, vs, upd_same, r, z⟩
theorem PostF.lst (h : PostF S G F σ env Q (.lst xs)) (g : Good S G F σ H env) (hp : H p = none) {vs : List V} (r : RpL S F xs vs) (z : vs.length ≤ sizeLine) : Q (.ref p) (upd H p (.lst vs)) :=
  h p G F _ (Ext.refl _ _) (g.new hp _) (g.fresh_lst hp r z)
theorem Post.lst (h : Post S G F σ env Q (.lst xs)) (g : Good S G F σ H env) (hp : H p = none) {vs : List V} (r : RpL S F xs vs) (z : vs.length ≤ sizeLine) : Q (.ref p) (upd H p (.lst vs)) :=
  (post_freshL h).lst g hp r z
theorem Post.tup (h : Post S G F σ env Q (.tup xs)) (g : Good S G F σ H env) (hp : H p = none) {vs : List V} (r : RpL S F xs vs) (z : vs.length ≤ sizeLine) : Q (.ref p) (upd H p (.tup vs)) := by
  have n := g.kp.no hp
  obtain ⟨g', x⟩ := (g.new hp (.tup vs)).frz upd_same n (g.stNe hp).1 (g.stNe hp).2 (g.ownNe hp)
  exact h _ _ _ _ x g' (.tup upd_same (r.mono (sub_upd (g.fg.no n))) z)

/-! ### names, constants -/
def mVar (i : Nat) : DE := fun env => match env[i]? with
  | some (some (.val d)) => .ret d
  | some (some (.bor d)) => if d.mut then .fail else .ret d
  | _ => .fail
def mVarB (i : Nat) : DE := fun env => match env[i]? with
  | some (some (.val d)) => .ret d
  | some (some (.own d)) => .ret d
  | some (some (.bor d)) => .ret d
  | _ => .fail
def mC (d : D) : DE := fun _ => .ret d
theorem mVar_wp {i : Nat} {P : D → Prop} (h : (mVar i env).wp P) : ∃ d, (env[i]? = some (some (.val d)) ∨ (env[i]? = some (some (.bor d)) ∧ d.mut = false)) ∧ P d := by
  unfold mVar at h
  split at h
  · exact ⟨_, .inl (by assumption), h⟩
  · split at h
    · exact h.elim
    · rename_i hm; exact ⟨_, .inr ⟨by assumption, by simpa using hm⟩, h⟩
  · exact h.elim
theorem mVarB_wp {i : Nat} {P : D → Prop} (h : (mVarB i env).wp P) : ∃ d, (env[i]? = some (some (.val d)) ∨ env[i]? = some (some (.own d)) ∨ env[i]? = some (some (.bor d))) ∧ P d := by
  unfold mVarB at h
  split at h
  · exact ⟨_, .inl (by assumption), h⟩
  · exact ⟨_, .inr (.inl (by assumption)), h⟩
  · exact ⟨_, .inr (.inr (by assumption)), h⟩
  · exact h.elim
theorem qv (i : Nat) {x : Str} (hN : X.N[i]? = some x := by rfl) (hv : Vis X.env.scope x := by first | exact Or.inl rfl | exact Or.inr (Or.inl rfl) | exact Or.inr (Or.inr rfl)) (hd : (x == ("__debug__" : Str)) = false := by decide)
    (hcd : (x == ("__classdict__" : Str)) = false := by decide) : QE S X (.Name x pos) (mVar i) := pe_weak (pe_var hN hv hd hcd) fun σ H Q ⟨G, F, env, g, q⟩ => by
  obtain ⟨d, e | ⟨e, hm⟩, q⟩ := mVar_wp q
  · obtain ⟨v, h1, h2⟩ := g.slot i _ e
    exact ⟨v, h1, q.now g h2⟩
  · obtain ⟨v, h1, h2⟩ := g.slot i _ e
    exact ⟨v, h1, q.now g (RdB.rp g (.inr ⟨i, .inr e, h1⟩) hm)⟩
theorem qvb (i : Nat) {x : Str} (hN : X.N[i]? = some x := by rfl) (hv : Vis X.env.scope x := by first | exact Or.inl rfl | exact Or.inr (Or.inl rfl) | exact Or.inr (Or.inr rfl)) (hd : (x == ("__debug__" : Str)) = false := by decide)
    (hcd : (x == ("__classdict__" : Str)) = false := by decide) : QB S X (.Name x pos) (mVarB i) := pe_weak (pe_var hN hv hd hcd) fun σ H Q ⟨G, F, env, g, q⟩ => by
  obtain ⟨d, e | e | e, q⟩ := mVarB_wp q
  · obtain ⟨v, h1, h2⟩ := g.slot i _ e
    exact ⟨v, h1, q.now g (.inl h2)⟩
  · obtain ⟨a, h1, _⟩ := g.slot i _ e
    exact ⟨.ref a, h1, q.now g (.inr ⟨i, .inl e, h1⟩)⟩
  · obtain ⟨v, h1, _⟩ := g.slot i _ e
    exact ⟨v, h1, q.now g (.inr ⟨i, .inr e, h1⟩)⟩
theorem qint {i j} : QE S X (.Constant (.int i) j pos) (mC (.int i)) := pe_weak pe_int fun σ H Q ⟨G, F, env, g, q⟩ => Post.now q g (.int i)
theorem qbl {b j} : QE S X (.Constant (.bool b) j pos) (mC (.bl b)) := pe_weak pe_bl fun σ H Q ⟨G, F, env, g, q⟩ => Post.now q g (.bl b)
theorem qnon {j} : QE S X (.Constant .none j pos) (mC .non) := pe_weak pe_non fun σ H Q ⟨G, F, env, g, q⟩ => Post.now q g .non
theorem qstr {x : Str} {j} (y : Str) (e : x = y := by rfl) (h : PyData.strOk y = true := by decide +kernel) (z : y.length ≤ sizeLine := by decide +kernel) : QE S X (.Constant (.str x) j pos) (mC (.str y)) := by
  subst e
  exact pe_weak pe_str fun σ H Q ⟨G, F, env, g, q⟩ => Post.now q g (.str _ h z)

/-! ### operators by trees -/
def OpD (S : SA) (X : Cx) (f : Value → Value → Sem Value) (op : D → D → M D) : Prop := ∃ r : R2, OpR X f r ∧ ∀ (G F : Hp) (σ : L2.St) (H : Hp) (env : DEnv) (x y : V) (d e : D) (Q : VK),
  Good S G F σ H env → RdB S F σ env d x → RdB S F σ env e y → (op d e).wp (Post S G F σ env Q) → r x y H Q
def OpF (S : SA) (X : Cx) (f : Value → Value → Sem Value) (op : D → D → M D) : Prop := ∃ r : R2, OpR X f r ∧ ∀ (G F : Hp) (σ : L2.St) (H : Hp) (env : DEnv) (x y : V) (d e : D) (Q : VK),
  Good S G F σ H env → RdB S F σ env d x → RdB S F σ env e y → (op d e).wp (PostF S G F σ env Q) → r x y H Q
def mBin (op : D → D → M D) (ma mb : DE) : DE := fun env => ma env >>= fun x => mb env >>= fun y => op x y
/-- two parts, one behind the other -/
theorem two (ma mb : DE) {R : V → V → Hp → Prop} {op : D → D → M D} {PP : Hp → Hp → D → Prop}
    (g : Good S G F σ H env) (q : (mBin op ma mb env).wp (PP G F)) (sh : ∀ G F G1 F1 d, Ext G F G1 F1 → PP G F d → PP G1 F1 d)
    (k : ∀ G F H x y d e, Good S G F σ H env → RdB S F σ env d x → RdB S F σ env e y → (op d e).wp (PP G F) → R x y H) :
    TB_ S ma σ H fun x H1 => TB_ S mb σ H1 fun y H2 => R x y H2 :=
  ⟨G, F, env, g, M.wp_mono (M.wpb q) fun d q v G1 F1 H1 e1 g1 r1 => ⟨G1, F1, env, g1, M.wp_mono (M.wpb q) fun d2 q v2 G2 F2 H2 e2 g2 r2 =>
    k G2 F2 H2 v v2 d d2 g2 (r1.mono e2.f) r2 (M.wp_mono q fun d3 => sh _ _ _ _ d3 (e1.trans e2))⟩⟩
theorem qbin {o : Operator} {op : D → D → M D} (ho : OpD S X (binaryOp o) op) (ha : QB S X a ma) (hb : QB S X b mb) : QE S X (.BinOp a o b pos) (mBin op ma mb) := by
  obtain ⟨r, hr, k⟩ := ho
  exact pe_weak (pe_op hr ha hb) fun σ H Q ⟨G, F, env, g, q⟩ => two ma mb (PP := fun G F => Post S G F σ env Q) g q (fun _ _ _ _ _ => post_shift) fun G F H x y d e g r1 r2 q => k G F σ H env x y d e Q g r1 r2 q
theorem qbinF {o : Operator} {op : D → D → M D} (ho : OpF S X (binaryOp o) op) (ha : QB S X a ma) (hb : QB S X b mb) : QF S X (.BinOp a o b pos) (mBin op ma mb) := by
  obtain ⟨r, hr, k⟩ := ho
  exact pe_weak (pe_op hr ha hb) fun σ H Q ⟨G, F, env, g, q⟩ => two ma mb (PP := fun G F => PostF S G F σ env Q) g q (fun _ _ _ _ _ => postF_shift) fun G F H x y d e g r1 r2 q => k G F σ H env x y d e Q g r1 r2 q

/-! ints -/
def dI2 (C : Int → Int → Bool) (f : Int → Int → D) : D → D → M D
  | .int i, .int j => if C i j then .ret (f i j) else .fail
  | _, _ => .fail
theorem RdB.int {i : Int} (g : Good S G F σ H env) (h : RdB S F σ env (.int i) v) : v = .int i := by
  cases h.rp g rfl
  rfl
theorem RdB.str {x : Str} (g : Good S G F σ H env) (h : RdB S F σ env (.str x) v) : v = .str x ∧ PyData.strOk x = true ∧ x.length ≤ sizeLine := by
  cases h.rp g rfl
  exact ⟨rfl, by assumption, by assumption⟩
theorem RdB.bl {b : Bool} (g : Good S G F σ H env) (h : RdB S F σ env (.bl b) v) : v = .bl b := by
  cases h.rp g rfl
  rfl
theorem RdB.non (g : Good S G F σ H env) (h : RdB S F σ env .non v) : v = .non := by
  cases h.rp g rfl
  rfl
theorem RdB.tup {xs : List D} (g : Good S G F σ H env) (h : RdB S F σ env (.tup xs) v) : ∃ p vs, v = .ref p ∧ F p = some (.tup vs) ∧ H p = some (.tup vs) ∧ RpL S F xs vs ∧ vs.length ≤ sizeLine := by
  cases h.rp g rfl
  exact ⟨_, _, rfl, by assumption, g.fh _ _ (by assumption), by assumption, by assumption⟩
theorem RdB.rpl {xs : List D} (g : Good S G F σ H env) (h : RdB S F σ env (.tup xs) v) : Rp S F (.tup xs) v := h.rp g rfl
theorem opD_I {f : Value → Value → Sem Value} {C : Int → Int → Prop} {C' : Int → Int → Bool} {gi : Int → Int → Int} (h : OpR X f (rI C fun i j => .int (gi i j))) (hc : ∀ i j, C' i j = true → C i j) : OpD S X f (dI2 C' fun i j => .int (gi i j)) :=
  ⟨_, h, fun G F σ H env x y d e Q g r1 r2 q => by
    cases d with
    | int i =>
      cases e with
      | int j =>
        unfold dI2 at q
        simp only at q
        split at q
        · obtain rfl := r1.int g
          obtain rfl := r2.int g
          exact ⟨i, j, rfl, rfl, hc i j (by assumption), Post.now q g (.int _)⟩
        · exact q.elim
      | _ => exact q.elim
    | _ => exact q.elim⟩
theorem opD_I0 {f : Value → Value → Sem Value} {gi : Int → Int → Int} (h : OpR X f (rI0 fun i j => .int (gi i j))) : OpD S X f (dI2 (fun _ _ => true) fun i j => .int (gi i j)) :=
  ⟨_, h, fun G F σ H env x y d e Q g r1 r2 q => by
    cases d with
    | int i =>
      cases e with
      | int j =>
        obtain rfl := r1.int g
        obtain rfl := r2.int g
        exact ⟨i, j, rfl, rfl, Post.now q g (.int _)⟩
      | _ => exact q.elim
    | _ => exact q.elim⟩
def small64 (i : Int) : Bool := decide (-(2 ^ 64) < i) && decide (i < 2 ^ 64)
def dSub : D → D → M D := dI2 (fun _ _ => true) fun i j => .int (i - j)
def dMul : D → D → M D := dI2 (fun i j => small64 i || small64 j) fun i j => .int (i * j)
def dFdiv : D → D → M D := dI2 (fun _ j => decide (0 < j) && decide (j < 2 ^ 30)) fun i j => .int (i / j)
def dMod : D → D → M D := dI2 (fun _ j => decide (0 < j)) fun i j => .int (i % j)
def dPow : D → D → M D := dI2 (fun i j => decide (0 ≤ j) && (decide (j ≤ 1000000) && decide (i.natAbs < 2 ^ 64))) fun i j => .int (i ^ j.toNat)
def dShl : D → D → M D := dI2 (fun i j => decide (0 ≤ j) && (decide (j ≤ 1000000) && decide (i.natAbs < 2 ^ 64))) fun i j => .int (i * 2 ^ j.toNat)
theorem o_sub : OpD S X (binaryOp .Sub) dSub := opD_I0 op_sub
theorem o_mul : OpD S X (binaryOp .Mult) dMul := opD_I op_mul fun i j h => by
  simp only [small64, Bool.or_eq_true, Bool.and_eq_true, decide_eq_true_eq] at h
  rcases h with h | h
  · exact .inl h
  · exact .inr h
theorem o_mod : OpD S X (binaryOp .Mod) dMod := opD_I op_mod fun i j h => of_decide_eq_true h
theorem o_pow : OpD S X (binaryOp .Pow) dPow := opD_I op_pow fun i j h => by
  simp only [Bool.and_eq_true, decide_eq_true_eq] at h
  exact h
theorem o_shl : OpD S X (binaryOp .LShift) dShl := opD_I op_shl fun i j h => by
  simp only [Bool.and_eq_true, decide_eq_true_eq] at h
  exact h
/-! + of ints, texts, tuples, lists -/
theorem opR_or {f : Value → Value → Sem Value} {r r' : R2} (h : OpR X f r) (h' : OpR X f r') : OpR X f (fun x y H Q => r x y H Q ∨ r' x y H Q) := by
  intro pins s σ H x y v u Q I rx ry q
  rcases q with q | q
  · exact h pins s σ H x y v u Q I rx ry q
  · exact h' pins s σ H x y v u Q I rx ry q
def dAdd : D → D → M D
  | .int i, .int j => .ret (.int (i + j))
  | .str x, .str y => if x.length + y.length ≤ sizeLine then .ret (.str (x ++ y)) else .fail
  | .tup xs, .tup ys => if xs.length + ys.length ≤ sizeLine then .ret (.tup (xs ++ ys)) else .fail
  | .lst xs, .lst ys => if xs.length + ys.length ≤ sizeLine then .ret (.lst (xs ++ ys)) else .fail
  | _, _ => .fail
def dCat : D → D → M D
  | .lst xs, .lst ys => if xs.length + ys.length ≤ sizeLine then .ret (.lst (xs ++ ys)) else .fail
  | _, _ => .fail
end
end DL

set_option Elab.async false
set_option linter.all false
set_option maxRecDepth 100000
/-! DL3: +, comparisons, in, tests, displays, subscripts, slices. -/
namespace DL
open PySem PySem.Spec L2
open PyProof.Rows hiding St

theorem strOk_append {x y : Str} (hx : PyData.strOk x = true) (hy : PyData.strOk y = true) : PyData.strOk (x ++ y) = true := by
  unfold PyData.strOk at *
  show (x.cps ++ y.cps).all _ = true
  rw [Array.all_append, hx, hy]; rfl

/-! ### plain trees: no dicts, no truth values, not deep -/
mutual
def D.pl : Nat → D → Bool
  | _, .non => true
  | _, .int _ => true
  | _, .str _ => true
  | n, .tup xs => match n with
    | 0 => false
    | k + 1 => D.plL k xs
  | n, .lst xs => match n with
    | 0 => false
    | k + 1 => D.plL k xs
  | _, .bl _ => false
  | _, .dct _ _ => false
  | _, .dcn _ => false
  | _, .stt => false
def D.plL : Nat → List D → Bool
  | _, [] => true
  | n, x :: xs => D.pl n x && D.plL n xs
end
mutual
def D.beq : D → D → Bool
  | .non, d => match d with
    | .non => true
    | _ => false
  | .bl a, d => match d with
    | .bl b => a == b
    | _ => false
  | .int a, d => match d with
    | .int b => decide (a = b)
    | _ => false
  | .str a, d => match d with
    | .str b => decide (a = b)
    | _ => false
  | .tup xs, d => match d with
    | .tup ys => D.beqL xs ys
    | _ => false
  | .lst xs, d => match d with
    | .lst ys => D.beqL xs ys
    | _ => false
  | .dct _ _, _ => false
  | .dcn _, _ => false
  | .stt, _ => false
def D.beqL : List D → List D → Bool
  | [], ds => match ds with
    | [] => true
    | _ :: _ => false
  | x :: xs, ds => match ds with
    | [] => false
    | y :: ys => D.beq x y && D.beqL xs ys
end
mutual
def D.py : D → PyData
  | .non => .none
  | .bl b => .bool b
  | .int i => .int i
  | .str x => .str x
  | .tup xs => .tuple (D.pyL xs)
  | .lst xs => .list (D.pyL xs)
  | .dct _ _ => .none
  | .dcn _ => .none
  | .stt => .none
def D.pyL : List D → List PyData
  | [] => []
  | x :: xs => D.py x :: D.pyL xs
end
mutual
theorem D.beq_eq : ∀ (n : Nat) (d e : D), d.pl n = true → (D.beq d e = true ↔ d = e)
  | n, .non, e, _ => by cases e <;> simp [D.beq]
  | n, .int i, e, _ => by cases e <;> simp [D.beq]
  | n, .str i, e, _ => by cases e <;> simp [D.beq]
  | n, .bl i, e, h => by simp [D.pl] at h
  | n, .dct _ i, e, h => by simp [D.pl] at h
  | n, .dcn i, e, h => by simp [D.pl] at h
  | n, .stt, e, h => by simp [D.pl] at h
  | 0, .tup xs, e, h => by simp [D.pl] at h
  | 0, .lst xs, e, h => by simp [D.pl] at h
  | n + 1, .tup xs, e, h => by
    cases e with
    | tup ys => simp only [D.beq, D.tup.injEq]; exact D.beqL_eq n xs ys (by simpa [D.pl] using h)
    | _ => simp [D.beq]
  | n + 1, .lst xs, e, h => by
    cases e with
    | lst ys => simp only [D.beq, D.lst.injEq]; exact D.beqL_eq n xs ys (by simpa [D.pl] using h)
    | _ => simp [D.beq]
theorem D.beqL_eq : ∀ (n : Nat) (d e : List D), D.plL n d = true → (D.beqL d e = true ↔ d = e)
  | n, [], e, _ => by cases e <;> simp [D.beqL]
  | n, x :: xs, e, h => by
    simp only [D.plL, Bool.and_eq_true] at h
    cases e with
    | nil => simp [D.beqL]
    | cons y ys => simp only [D.beqL, Bool.and_eq_true, List.cons.injEq, D.beq_eq n x y h.1, D.beqL_eq n xs ys h.2]
end
mutual
theorem D.eqv_beq : ∀ (n : Nat) (d e : D), d.pl n = true → e.pl n = true → PyData.eqv d.py e.py = D.beq d e
  | n, .non, e, _, h => by cases e <;> simp [D.beq, D.py, PyData.eqv] <;> simp [D.pl] at h
  | n, .int i, e, _, h => by cases e <;> simp [D.beq, D.py, PyData.eqv] <;> simp [D.pl] at h <;> rfl
  | n, .str i, e, _, h => by cases e <;> simp [D.beq, D.py, PyData.eqv] <;> simp [D.pl] at h <;> rfl
  | n, .bl i, e, h, _ => by simp [D.pl] at h
  | n, .dct _ i, e, h, _ => by simp [D.pl] at h
  | n, .dcn i, e, h, _ => by simp [D.pl] at h
  | n, .stt, e, h, _ => by simp [D.pl] at h
  | 0, .tup xs, e, h, _ => by simp [D.pl] at h
  | 0, .lst xs, e, h, _ => by simp [D.pl] at h
  | n + 1, .tup xs, e, h, h' => by
    cases e with
    | tup ys => simp only [D.beq, D.py, PyData.eqv]; exact D.eqvL_beq n xs ys (by simpa [D.pl] using h) (by simpa [D.pl] using h')
    | _ => first | (simp [D.pl] at h'; done) | simp [D.beq, D.py, PyData.eqv]
  | n + 1, .lst xs, e, h, h' => by
    cases e with
    | lst ys => simp only [D.beq, D.py, PyData.eqv]; exact D.eqvL_beq n xs ys (by simpa [D.pl] using h) (by simpa [D.pl] using h')
    | _ => first | (simp [D.pl] at h'; done) | simp [D.beq, D.py, PyData.eqv]
theorem D.eqvL_beq : ∀ (n : Nat) (d e : List D), D.plL n d = true → D.plL n e = true → PyData.eqvAll (D.pyL d) (D.pyL e) = D.beqL d e
  | n, [], e, _, _ => by cases e <;> simp [D.beqL, D.pyL, PyData.eqvAll]
  | n, x :: xs, e, h, h' => by
    simp only [D.plL, Bool.and_eq_true] at h
    cases e with
    | nil => simp [D.beqL, D.pyL, PyData.eqvAll]
    | cons y ys =>
      simp only [D.plL, Bool.and_eq_true] at h'
      simp only [D.beqL, D.pyL, PyData.eqvAll, D.eqv_beq n x y h.1 h'.1, D.eqvL_beq n xs ys h.2 h'.2]
end
mutual
theorem D.dep : ∀ (n : Nat) (d : D), d.pl n = true → d.py.depth ≤ n
  | n, .non, _ => by simp [D.py, PyData.depth]
  | n, .int i, _ => by simp [D.py, PyData.depth]
  | n, .str i, _ => by simp [D.py, PyData.depth]
  | n, .bl i, h => by simp [D.pl] at h
  | n, .dct _ i, h => by simp [D.pl] at h
  | n, .dcn i, h => by simp [D.pl] at h
  | n, .stt, h => by simp [D.pl] at h
  | 0, .tup xs, h => by simp [D.pl] at h
  | 0, .lst xs, h => by simp [D.pl] at h
  | n + 1, .tup xs, h => by simp only [D.py, PyData.depth]; exact Nat.succ_le_succ (D.depL n xs (by simpa [D.pl] using h))
  | n + 1, .lst xs, h => by simp only [D.py, PyData.depth]; exact Nat.succ_le_succ (D.depL n xs (by simpa [D.pl] using h))
theorem D.depL : ∀ (n : Nat) (d : List D), D.plL n d = true → PyData.depthAll (D.pyL d) ≤ n
  | n, [], _ => by simp [D.pyL, PyData.depthAll]
  | n, x :: xs, h => by
    simp only [D.plL, Bool.and_eq_true] at h
    simp only [D.pyL, PyData.depthAll]
    exact Nat.max_le.mpr ⟨D.dep n x h.1, D.depL n xs h.2⟩
end
section
variable {S : SA} {K : PySem.W.Frag} {F H : Hp}
mutual
theorem Rp.dp (s : Sub F H) : ∀ (n : Nat) (d : D) {v : V}, d.pl n = true → Rp S F d v → Dp K H v d.py ∧ PyData.canLay0 d.py = true
  | n, .non, _, _, r => by cases r; exact ⟨.non, by simp [D.py, PyData.canLay0]⟩
  | n, .bl b, _, h, _ => by simp [D.pl] at h
  | n, .dct _ b, _, h, _ => by simp [D.pl] at h
  | n, .dcn b, _, h, _ => by simp [D.pl] at h
  | n, .stt, _, h, _ => by simp [D.pl] at h
  | n, .int i, _, _, r => by cases r; exact ⟨.int i, by simp [D.py, PyData.canLay0]⟩
  | n, .str x, _, _, r => by
    cases r with
    | str x h _ => exact ⟨.str x, by simp only [D.py, PyData.canLay0]; exact h⟩
  | 0, .tup xs, _, h, _ => by simp [D.pl] at h
  | 0, .lst xs, _, h, _ => by simp [D.pl] at h
  | n + 1, .tup xs, _, h, r => by
    cases r with
    | tup h1 r _ =>
      obtain ⟨q1, q2⟩ := RpL.dp s n xs (by simpa [D.pl] using h) r
      simp only [D.py, PyData.canLay0]
      exact ⟨.tup (.of (s _ _ h1)) q1, q2⟩
  | n + 1, .lst xs, _, h, r => by
    cases r with
    | lst h1 r _ =>
      obtain ⟨q1, q2⟩ := RpL.dp s n xs (by simpa [D.pl] using h) r
      simp only [D.py, PyData.canLay0]
      exact ⟨.lst (.of (s _ _ h1)) q1, q2⟩
theorem RpL.dp (s : Sub F H) : ∀ (n : Nat) (ds : List D) {vs : List V}, D.plL n ds = true → RpL S F ds vs → DpAll K H vs (D.pyL ds) ∧ PyData.canLayAll0 (D.pyL ds) = true
  | n, [], _, _, r => by cases r; exact ⟨.nil, by simp [D.pyL, PyData.canLayAll0]⟩
  | n, x :: xs, _, h, r => by
    cases r with
    | cons r t =>
      simp only [D.plL, Bool.and_eq_true] at h
      obtain ⟨q1, q2⟩ := Rp.dp s n x h.1 r
      obtain ⟨q3, q4⟩ := RpL.dp s n xs h.2 t
      simp only [D.pyL, PyData.canLayAll0, q2, q4]
      exact ⟨.cons q1 q3, rfl⟩
end
end
section
variable {S : SA} {X : Cx} {G F G' F' H H' : Hp} {σ : L2.St} {env : DEnv} {d : D} {v : V} {p : Addr} {Q : VK} {m ma mb mc : DE} {a b c e : Expr} {pos : Pos}
theorem RdB.dp {K : PySem.W.Frag} (g : Good S G F σ H env) {n : Nat} (h : d.pl n = true) (r : RdB S F σ env d v) : Dp K H v d.py ∧ PyData.canLay0 d.py = true := by
  rcases r.elim g with r | ⟨a, rfl, h4⟩
  · exact Rp.dp g.fh n d h r
  · skip
    cases d with
    | lst xs =>
      obtain ⟨vs, h5, h6, _⟩ := h4
      cases n with
      | zero => simp [D.pl] at h
      | succ n =>
        obtain ⟨q1, q2⟩ := RpL.dp (K := K) g.fh n xs (by simpa [D.pl] using h) h6
        simp only [D.py, PyData.canLay0]
        exact ⟨.lst (.of h5) q1, q2⟩
    | dct _ _ => simp [D.pl] at h
    | dcn _ => simp [D.pl] at h
    | _ => exact h4.elim
theorem RdB.shaped {K : PySem.W.Frag} (g : Good S G F σ H env) (h : d.pl 64 = true) (r : RdB S F σ env d v) : Dp K H v d.py ∧ SeqAt.shaped d.py = true := by
  obtain ⟨q1, q2⟩ := r.dp (K := K) g h
  refine ⟨q1, ?_⟩
  unfold SeqAt.shaped
  rw [q2, decide_eq_true (D.dep 64 d h)]; rfl

/-! ### == and != -/
def dEq : D → D → M D
  | .bl a, e => match e with
    | .bl b => .ret (.bl (a == b))
    | _ => .fail
  | d, e => if d.pl 64 && e.pl 64 then .ret (.bl (D.beq d e)) else .fail
def dNe : D → D → M D
  | .bl a, e => match e with
    | .bl b => .ret (.bl (!(a == b)))
    | _ => .fail
  | d, e => if d.pl 64 && e.pl 64 then .ret (.bl (!D.beq d e)) else .fail
theorem dEq_wp {P : D → Prop} {d e : D} (h : (dEq d e).wp P) : (∃ a b, d = .bl a ∧ e = .bl b ∧ P (.bl (a == b))) ∨ (d.pl 64 = true ∧ e.pl 64 = true ∧ P (.bl (D.beq d e))) := by
  cases d with
  | bl a =>
    cases e with
    | bl b => exact .inl ⟨a, b, rfl, rfl, h⟩
    | _ => exact h.elim
  | _ =>
    refine .inr ?_
    unfold dEq at h
    simp only at h
    split at h
    · rename_i hc
      rw [Bool.and_eq_true] at hc
      exact ⟨hc.1, hc.2, h⟩
    · exact h.elim
theorem dNe_wp {P : D → Prop} {d e : D} (h : (dNe d e).wp P) : (∃ a b, d = .bl a ∧ e = .bl b ∧ P (.bl (!(a == b)))) ∨ (d.pl 64 = true ∧ e.pl 64 = true ∧ P (.bl (!D.beq d e))) := by
  cases d with
  | bl a =>
    cases e with
    | bl b => exact .inl ⟨a, b, rfl, rfl, h⟩
    | _ => exact h.elim
  | _ =>
    refine .inr ?_
    unfold dNe at h
    simp only at h
    split at h
    · rename_i hc
      rw [Bool.and_eq_true] at hc
      exact ⟨hc.1, hc.2, h⟩
    · exact h.elim
theorem bl_dec (a b : Bool) : decide (V.bl a = V.bl b) = (a == b) := by cases a <;> cases b <;> rfl
theorem o_eq (hu : X.A.units + 64 < cLine) : OpD S X (compareOp .Eq) dEq := ⟨_, L2.op_eq.or (L2.op_eqD hu), fun G F σ H env x y d e Q g r1 r2 q => by
  rcases dEq_wp q with ⟨a, b, rfl, rfl, q⟩ | ⟨h1, h2, q⟩
  · obtain rfl := r1.bl g
    obtain rfl := r2.bl g
    exact .inl ⟨rfl, by rw [bl_dec]; exact Post.now q g (.bl _)⟩
  · obtain ⟨p1, s1⟩ := r1.shaped (K := X.K) g h1
    obtain ⟨p2, s2⟩ := r2.shaped (K := X.K) g h2
    exact .inr ⟨_, _, p1, p2, s1, s2, by rw [D.eqv_beq 64 d e h1 h2]; exact Post.now q g (.bl _)⟩⟩
theorem o_ne (hu : X.A.units + 64 < cLine) : OpD S X (compareOp .NotEq) dNe := ⟨_, L2.op_ne.or (L2.op_neD hu), fun G F σ H env x y d e Q g r1 r2 q => by
  rcases dNe_wp q with ⟨a, b, rfl, rfl, q⟩ | ⟨h1, h2, q⟩
  · obtain rfl := r1.bl g
    obtain rfl := r2.bl g
    exact .inl ⟨rfl, by rw [bl_dec]; exact Post.now q g (.bl _)⟩
  · obtain ⟨p1, s1⟩ := r1.shaped (K := X.K) g h1
    obtain ⟨p2, s2⟩ := r2.shaped (K := X.K) g h2
    exact .inr ⟨_, _, p1, p2, s1, s2, by rw [D.eqv_beq 64 d e h1 h2]; exact Post.now q g (.bl _)⟩⟩
/-! ### < <= > >= of ints -/
theorem opB_I0 {f : Value → Value → Sem Value} {gi : Int → Int → Bool} (h : OpR X f (rI0 fun i j => .bl (gi i j))) : OpD S X f (dI2 (fun _ _ => true) fun i j => .bl (gi i j)) :=
  ⟨_, h, fun G F σ H env x y d e Q g r1 r2 q => by
    cases d with
    | int i =>
      cases e with
      | int j =>
        obtain rfl := r1.int g
        obtain rfl := r2.int g
        exact ⟨i, j, rfl, rfl, Post.now q g (.bl _)⟩
      | _ => exact q.elim
    | _ => exact q.elim⟩
def dLt : D → D → M D := dI2 (fun _ _ => true) fun i j => .bl (decide (i < j))
def dLe : D → D → M D := dI2 (fun _ _ => true) fun i j => .bl (decide (i ≤ j))
def dGt : D → D → M D := dI2 (fun _ _ => true) fun i j => .bl (decide (j < i))
def dGe : D → D → M D := dI2 (fun _ _ => true) fun i j => .bl (decide (j ≤ i))
theorem o_lt : OpD S X (compareOp .Lt) dLt := opB_I0 op_lt
theorem o_le : OpD S X (compareOp .LtE) dLe := opB_I0 op_le
theorem o_gt : OpD S X (compareOp .Gt) dGt := opB_I0 op_gt
theorem o_ge : OpD S X (compareOp .GtE) dGe := opB_I0 op_ge
/-! ### is None -/
def dIs : D → D → M D
  | d, .non => .ret (.bl (match d with | .non => true | _ => false))
  | _, _ => .fail
def dIsNot : D → D → M D
  | d, .non => .ret (.bl (match d with | .non => false | _ => true))
  | _, _ => .fail
theorem RdB.isNon (g : Good S G F σ H env) (r : RdB S F σ env d v) : decide (v = V.non) = (match d with | .non => true | _ => false) := by
  rcases r.elim g with r | ⟨a, rfl, h4⟩
  · cases r <;> simp
  · skip
    cases d with
    | lst xs => simp
    | dct _ _ => simp
    | dcn _ => simp
    | _ => exact h4.elim
theorem o_is : OpD S X (compareOp .Is) dIs := ⟨_, op_isN, fun G F σ H env x y d e Q g r1 r2 q => by
  cases e with
  | non =>
    obtain rfl := r2.non g
    refine ⟨rfl, ?_⟩
    rw [r1.isNon g]
    exact Post.now (show Post S G F σ env Q _ by cases d <;> exact q) g (.bl _)
  | _ => cases d <;> exact q.elim⟩
theorem o_isNot : OpD S X (compareOp .IsNot) dIsNot := ⟨_, op_notN, fun G F σ H env x y d e Q g r1 r2 q => by
  cases e with
  | non =>
    obtain rfl := r2.non g
    refine ⟨rfl, ?_⟩
    rw [r1.isNon g]
    exact Post.now (show Post S G F σ env Q _ by cases d <;> exact q) g (.bl _)
  | _ => cases d <;> exact q.elim⟩
/-! ### in, not in: lists, tuples; one text in another -/
def memD (x : D) (xs : List D) : Bool := xs.any fun y => D.beq y x
def strIn (x y : Str) : Bool := !(Builtin.Str.occurrences y x 0 y.length 1).isEmpty
def dIn : D → D → M D
  | x, .lst xs => if x.pl 63 && D.plL 63 xs then .ret (.bl (memD x xs)) else .fail
  | x, .tup xs => if x.pl 63 && D.plL 63 xs then .ret (.bl (memD x xs)) else .fail
  | .str x, .str y => .ret (.bl (strIn x y))
  | _, _ => .fail
def dNotIn : D → D → M D
  | x, .lst xs => if x.pl 63 && D.plL 63 xs then .ret (.bl (!memD x xs)) else .fail
  | x, .tup xs => if x.pl 63 && D.plL 63 xs then .ret (.bl (!memD x xs)) else .fail
  | .str x, .str y => .ret (.bl (!strIn x y))
  | _, _ => .fail
def rInT (K : PySem.W.Frag) (neg : Bool) : R2 := fun x y H Q => ∃ d ds, Dp K H x d ∧ Dp K H y (.tuple ds) ∧ SeqAt.shaped d = true ∧ SeqAt.shaped (.tuple ds) = true ∧ Q (.bl (if neg then !ds.any fun z => PyData.eqv z d else ds.any fun z => PyData.eqv z d)) H
theorem room_inT {A : Around} {ds : List PyData} {d : PyData} (h : SeqAt.shaped d = true) (hu : A.units + 65 < cLine) : A.units + 1 + min (PyData.depthAll ds) d.depth < cLine := by
  have h1 := SeqAt.depth_of_shaped h
  have h2 : min (PyData.depthAll ds) d.depth ≤ d.depth := Nat.min_le_right _ _
  omega
theorem op_inT (hu : X.A.units + 65 < cLine) : OpR X (compareOp .In) (rInT X.K false) := by
  intro pins s σ H x y v u Q I rx ry h
  obtain ⟨d, ds, hd, he, sd, se, q⟩ := h
  obtain ⟨as, r1⟩ := Dp.reads I d x v hd rx
  obtain ⟨bs, r2⟩ := Dp.reads I (.tuple ds) y u he ry
  exact SeqAt.in_tuple_reads r2 r1 (SeqAt.canLay_of_shaped se) (SeqAt.canLay_of_shaped sd) (room_inT sd hu) ⟨.bl _, H, I, rfl, q⟩
theorem op_notInT (hu : X.A.units + 65 < cLine) : OpR X (compareOp .NotIn) (rInT X.K true) := by
  intro pins s σ H x y v u Q I rx ry h
  obtain ⟨d, ds, hd, he, sd, se, q⟩ := h
  obtain ⟨as, r1⟩ := Dp.reads I d x v hd rx
  obtain ⟨bs, r2⟩ := Dp.reads I (.tuple ds) y u he ry
  exact SeqAt.notIn_tuple_reads r2 r1 (SeqAt.canLay_of_shaped se) (SeqAt.canLay_of_shaped sd) (room_inT sd hu) ⟨.bl _, H, I, rfl, q⟩
theorem any_memD (x : D) (hx : x.pl 63 = true) : ∀ (xs : List D), D.plL 63 xs = true → ((D.pyL xs).any fun z => PyData.eqv z x.py) = memD x xs
  | [], _ => rfl
  | y :: ys, h => by
    simp only [D.plL, Bool.and_eq_true] at h
    show (PyData.eqv y.py x.py || (D.pyL ys).any _) = (D.beq y x || memD x ys)
    rw [D.eqv_beq 63 y x h.1 hx, any_memD x hx ys h.2]
mutual
theorem D.pl_succ : ∀ (n : Nat) (d : D), d.pl n = true → d.pl (n + 1) = true
  | n, .non, _ => by simp [D.pl]
  | n, .int i, _ => by simp [D.pl]
  | n, .str i, _ => by simp [D.pl]
  | n, .bl i, h => by simp [D.pl] at h
  | n, .dct _ i, h => by simp [D.pl] at h
  | n, .dcn i, h => by simp [D.pl] at h
  | n, .stt, h => by simp [D.pl] at h
  | 0, .tup xs, h => by simp [D.pl] at h
  | 0, .lst xs, h => by simp [D.pl] at h
  | n + 1, .tup xs, h => by simp only [D.pl] at h ⊢; exact D.plL_succ n xs h
  | n + 1, .lst xs, h => by simp only [D.pl] at h ⊢; exact D.plL_succ n xs h
theorem D.plL_succ : ∀ (n : Nat) (d : List D), D.plL n d = true → D.plL (n + 1) d = true
  | n, [], _ => by simp [D.plL]
  | n, x :: xs, h => by
    simp only [D.plL, Bool.and_eq_true] at h ⊢
    exact ⟨D.pl_succ n x h.1, D.plL_succ n xs h.2⟩
end
theorem o_in (hu : X.A.units + 65 < cLine) : OpD S X (compareOp .In) dIn := ⟨_, (op_inD hu).or ((op_inT hu).or op_in_str), fun G F σ H env x y d e Q g r1 r2 q => by
  have hs : ∀ {xs : List D}, D.plL 63 xs = true → (D.lst xs).pl 64 = true ∧ (D.tup xs).pl 64 = true := fun h => ⟨h, h⟩
  cases e with
  | lst xs =>
    have q' : (if d.pl 63 && D.plL 63 xs then M.ret (D.bl (memD d xs)) else M.fail).wp (Post S G F σ env Q) := by cases d <;> exact q
    split at q'
    · rename_i hc
      rw [Bool.and_eq_true] at hc
      obtain ⟨p1, s1⟩ := r1.shaped (K := X.K) g (D.pl_succ _ _ hc.1)
      obtain ⟨p2, s2⟩ := r2.shaped (K := X.K) g (hs hc.2).1
      exact .inl ⟨_, D.pyL xs, p1, by simpa only [D.py] using p2, s1, by simpa only [D.py] using s2, by rw [any_memD d hc.1 xs hc.2]; exact Post.now q' g (.bl _)⟩
    · exact q'.elim
  | tup xs =>
    have q' : (if d.pl 63 && D.plL 63 xs then M.ret (D.bl (memD d xs)) else M.fail).wp (Post S G F σ env Q) := by cases d <;> exact q
    split at q'
    · rename_i hc
      rw [Bool.and_eq_true] at hc
      obtain ⟨p1, s1⟩ := r1.shaped (K := X.K) g (D.pl_succ _ _ hc.1)
      obtain ⟨p2, s2⟩ := r2.shaped (K := X.K) g (hs hc.2).2
      exact .inr (.inl ⟨_, D.pyL xs, p1, by simpa only [D.py] using p2, s1, by simpa only [D.py] using s2, by rw [if_neg (by decide), any_memD d hc.1 xs hc.2]; exact Post.now q' g (.bl _)⟩)
    · exact q'.elim
  | str y =>
    cases d with
    | str x =>
      obtain ⟨rfl, _⟩ := r1.str g
      obtain ⟨rfl, _⟩ := r2.str g
      exact .inr (.inr ⟨x, y, rfl, rfl, Post.now q g (.bl _)⟩)
    | _ => exact q.elim
  | _ => cases d <;> exact q.elim⟩
theorem o_notIn (hu : X.A.units + 65 < cLine) : OpD S X (compareOp .NotIn) dNotIn := ⟨_, (op_notInD hu).or ((op_notInT hu).or L2.op_notin_str), fun G F σ H env x y d e Q g r1 r2 q => by
  have hs : ∀ {xs : List D}, D.plL 63 xs = true → (D.lst xs).pl 64 = true ∧ (D.tup xs).pl 64 = true := fun h => ⟨h, h⟩
  cases e with
  | lst xs =>
    have q' : (if d.pl 63 && D.plL 63 xs then M.ret (D.bl (!memD d xs)) else M.fail).wp (Post S G F σ env Q) := by cases d <;> exact q
    split at q'
    · rename_i hc
      rw [Bool.and_eq_true] at hc
      obtain ⟨p1, s1⟩ := r1.shaped (K := X.K) g (D.pl_succ _ _ hc.1)
      obtain ⟨p2, s2⟩ := r2.shaped (K := X.K) g (hs hc.2).1
      exact .inl ⟨_, D.pyL xs, p1, by simpa only [D.py] using p2, s1, by simpa only [D.py] using s2, by rw [any_memD d hc.1 xs hc.2]; exact Post.now q' g (.bl _)⟩
    · exact q'.elim
  | tup xs =>
    have q' : (if d.pl 63 && D.plL 63 xs then M.ret (D.bl (!memD d xs)) else M.fail).wp (Post S G F σ env Q) := by cases d <;> exact q
    split at q'
    · rename_i hc
      rw [Bool.and_eq_true] at hc
      obtain ⟨p1, s1⟩ := r1.shaped (K := X.K) g (D.pl_succ _ _ hc.1)
      obtain ⟨p2, s2⟩ := r2.shaped (K := X.K) g (hs hc.2).2
      exact .inr (.inl ⟨_, D.pyL xs, p1, by simpa only [D.py] using p2, s1, by simpa only [D.py] using s2, by rw [if_pos rfl, any_memD d hc.1 xs hc.2]; exact Post.now q' g (.bl _)⟩)
    · exact q'.elim
  | str y =>
    cases d with
    | str x =>
      obtain ⟨rfl, _⟩ := r1.str g
      obtain ⟨rfl, _⟩ := r2.str g
      exact .inr (.inr ⟨x, y, rfl, rfl, Post.now q g (.bl _)⟩)
    | _ => exact q.elim
  | _ => cases d <;> exact q.elim⟩

/-! ### + -/
theorem addPost_tup {xs ys : List D} (g : Good S G F σ H env) {x y : V} (r1 : RdB S F σ env (.tup xs) x) (r2 : RdB S F σ env (.tup ys) y) (hz : xs.length + ys.length ≤ sizeLine) (q : Post S G F σ env Q (.tup (xs ++ ys))) : rCatA X.K x y H Q := by
  have w1 := r1.rpl g
  have w2 := r2.rpl g
  obtain ⟨p, vs, rfl, f1, h1, l1, z1⟩ := r1.tup g
  obtain ⟨p', us, rfl, f2, h2, l2, z2⟩ := r2.tup g
  have n1 := l1.len
  have n2 := l2.len
  refine ⟨p, p', vs, us, rfl, rfl, .of h1, .of h2, by omega, fun e => ?_, fun e1 e2 => ?_, fun e1 e2 t ht => ?_⟩
  · subst e
    cases l1
    exact q.now g w2
  · subst e2
    cases l2
    rw [List.append_nil] at q
    exact q.now g w1
  · exact q.tup g ht (l1.append l2) (by rw [List.length_append]; omega)
theorem o_add : OpD S X (binaryOp .Add) dAdd := ⟨_, op_add.or (op_add_str.or (op_catA.or op_cat)), fun G F σ H env x y d e Q g r1 r2 q => by
  cases d with
  | int i =>
    cases e with
    | int j =>
      obtain rfl := r1.int g
      obtain rfl := r2.int g
      exact .inl ⟨i, j, rfl, rfl, Post.now q g (.int _)⟩
    | _ => exact q.elim
  | str i =>
    cases e with
    | str j =>
      obtain ⟨rfl, o1, _⟩ := r1.str g
      obtain ⟨rfl, o2, _⟩ := r2.str g
      simp only [dAdd] at q
      split at q
      · rename_i hz
        refine .inr (.inl ⟨i, j, rfl, rfl, hz, Post.now q g (.str _ (strOk_append o1 o2) ?_)⟩)
        have e : (i ++ j).length = i.length + j.length := by
          show (i.cps ++ j.cps).size = _
          rw [Array.size_append]; rfl
        rw [e]; exact hz
      · exact q.elim
    | _ => exact q.elim
  | tup xs =>
    cases e with
    | tup ys =>
      simp only [dAdd] at q
      split at q
      · exact .inr (.inr (.inl (addPost_tup g r1 r2 (by assumption) q)))
      · exact q.elim
    | _ => exact q.elim
  | lst xs =>
    cases e with
    | lst ys =>
      simp only [dAdd] at q
      split at q
      · obtain ⟨p, vs, rfl, h1, l1, z1⟩ := r1.lst g
        obtain ⟨p', us, rfl, h2, l2, z2⟩ := r2.lst g
        have n1 := l1.len
        have n2 := l2.len
        exact .inr (.inr (.inr ⟨p, p', vs, us, rfl, rfl, h1, h2, by omega, fun t ht => Post.lst q g ht (l1.append l2) (by rw [List.length_append]; omega)⟩))
      · exact q.elim
    | _ => exact q.elim
  | _ => exact q.elim⟩
theorem o_cat : OpF S X (binaryOp .Add) dCat := ⟨_, op_cat, fun G F σ H env x y d e Q g r1 r2 q => by
  cases d with
  | lst xs =>
    cases e with
    | lst ys =>
      simp only [dCat] at q
      split at q
      · obtain ⟨p, vs, rfl, h1, l1, z1⟩ := r1.lst g
        obtain ⟨p', us, rfl, h2, l2, z2⟩ := r2.lst g
        have n1 := l1.len
        have n2 := l2.len
        exact ⟨p, p', vs, us, rfl, rfl, h1, h2, by omega, fun t ht => PostF.lst q g ht (l1.append l2) (by rw [List.length_append]; omega)⟩
      · exact q.elim
    | _ => exact q.elim
  | _ => exact q.elim⟩
end
end DL

set_option Elab.async false
set_option linter.all false
set_option maxRecDepth 100000
/-! DL3d: dicts by trees: keys that are ints and texts, or tuples of such. -/
namespace DL
open PySem PySem.Spec L2
open PyProof.Rows hiding St

def D.isKey : D → Bool
  | .int _ => true
  | .str _ => true
  | _ => false
def valD (kvs : List (D × D)) (k : D) : Option D := (kvs.find? fun p => D.beq p.1 k).map (·.2)
def putD (kvs : List (D × D)) (k e : D) : List (D × D) := if kvs.any (fun p => D.beq p.1 k) then kvs.map (fun p => if D.beq p.1 k then (p.1, e) else p) else kvs ++ [(k, e)]
/-- may this be a key of such a dict -/
def keyOk : Bool → D → Bool
  | false, d => d.isKey
  | true, .tup ks => ks.all D.isKey
  | true, _ => false
theorem KeyD.pl {d : D} {k : Key} (h : KeyD d k) : d.pl 0 = true := by
  rcases h with ⟨i, rfl, _⟩ | ⟨x, rfl, _⟩ <;> simp [D.pl]
theorem KeyD.eq_iff {d e : D} {k l : Key} (h : KeyD d k) (h' : KeyD e l) : d = e ↔ k = l := by
  rcases h with ⟨i, rfl, rfl⟩ | ⟨x, rfl, rfl, _⟩ <;> rcases h' with ⟨j, rfl, rfl⟩ | ⟨y, rfl, rfl, _⟩ <;> simp
theorem KeyD.beq {d e : D} {k l : Key} (h : KeyD d k) (h' : KeyD e l) : D.beq d e = decide (k = l) := by
  have q := (D.beq_eq 0 d e h.pl).trans (h.eq_iff h')
  by_cases z : k = l
  · rw [decide_eq_true z]; exact q.mpr z
  · rw [decide_eq_false z]; cases hb : D.beq d e with
    | false => rfl
    | true => exact absurd (q.mp hb) z
theorem KeysD.beqL : ∀ {ds es : List D} {ks ls : List Key}, KeysD ds ks → KeysD es ls → D.beqL ds es = decide (ks = ls)
  | [], [], [], [], _, _ => by simp [D.beqL]
  | [], _ :: _, [], _ :: _, _, _ => by simp [D.beqL]
  | _ :: _, [], _ :: _, [], _, _ => by simp [D.beqL]
  | d :: ds, e :: es, k :: ks, l :: ls, h, h' => by
    show (D.beq d e && D.beqL ds es) = _
    rw [h.1.beq h'.1, KeysD.beqL h.2 h'.2]
    by_cases z : k = l <;> by_cases z' : ks = ls <;> simp [z, z']
  | [], _, _ :: _, _, h, _ => h.elim
  | _ :: _, _, [], _, h, _ => h.elim
  | [], [], [], _ :: _, _, h => h.elim
  | [], _ :: _, [], [], _, h => h.elim
  | _ :: _, [], _ :: _, _ :: _, _, h => h.elim
  | _ :: _, _ :: _, _ :: _, [], _, h => h.elim
section
variable {S : SA} {X : Cx} {G F G' F' H H' : Hp} {σ : L2.St} {env : DEnv} {d e : D} {v u : V} {p : Addr} {Q : VK}
def RpO (S : SA) (F : Hp) : Option D → Option V → Prop
  | some d, some v => Rp S F d v
  | none, none => True
  | _, _ => False
theorem RpK.val : ∀ {kvs : List (D × D)} {es : List (Key × V)} {d : D} {k : Key}, RpK S F kvs es → KeyD d k → RpO S F (valD kvs d) (valV es k)
  | _, _, _, _, .nil, _ => trivial
  | _, _, d, k, .cons (kd := kd) (k := k') hk hr ht, h => by
    unfold valD valV
    rw [List.find?_cons, List.find?_cons]
    simp only
    rw [hk.beq h]
    cases decide (k' = k) with
    | true => exact hr
    | false => exact RpK.val ht h
theorem RpT.val : ∀ {kvs : List (D × D)} {es : List (List Key × V)} {ds : List D} {k : List Key}, RpT S F kvs es → KeysD ds k → RpO S F (valD kvs (.tup ds)) (valV es k)
  | _, _, _, _, .nil, _ => trivial
  | _, _, d, k, .cons (kds := kds) (ks := k') hk hr ht, h => by
    unfold valD valV
    rw [List.find?_cons, List.find?_cons]
    simp only [D.beq]
    rw [hk.beqL h]
    cases decide (k' = k) with
    | true => exact hr
    | false => exact RpT.val ht h
theorem RpK.any : ∀ {kvs : List (D × D)} {es : List (Key × V)} {d : D} {k : Key}, RpK S F kvs es → KeyD d k → (kvs.any fun p => D.beq p.1 d) = es.any fun kv => decide (kv.1 = k)
  | _, _, _, _, .nil, _ => rfl
  | _, _, d, k, .cons hk hr ht, h => by
    rw [List.any_cons, List.any_cons, RpK.any ht h]
    simp only
    rw [hk.beq h]
theorem RpT.any : ∀ {kvs : List (D × D)} {es : List (List Key × V)} {ds : List D} {k : List Key}, RpT S F kvs es → KeysD ds k → (kvs.any fun p => D.beq p.1 (.tup ds)) = es.any fun kv => decide (kv.1 = k)
  | _, _, _, _, .nil, _ => rfl
  | _, _, d, k, .cons hk hr ht, h => by
    rw [List.any_cons, List.any_cons, RpT.any ht h]
    simp only [D.beq]
    rw [hk.beqL h]
theorem RpK.mapPut {d e : D} {k : Key} {u : V} (hk : KeyD d k) (hr : Rp S F e u) : ∀ {kvs : List (D × D)} {es : List (Key × V)}, RpK S F kvs es → RpK S F (kvs.map fun p => if D.beq p.1 d then (p.1, e) else p) (es.map fun kv => if kv.1 = k then (kv.1, u) else kv)
  | _, _, .nil => .nil
  | _, _, .cons (kd := kd) (k := k') h1 h2 h3 => by
    rw [List.map_cons, List.map_cons]
    simp only
    have q := h1.beq hk
    by_cases z : k' = k
    · rw [decide_eq_true z] at q
      rw [if_pos q, if_pos z]
      exact .cons h1 hr (RpK.mapPut hk hr h3)
    · rw [decide_eq_false z] at q
      rw [if_neg (by rw [q]; simp), if_neg z]
      exact .cons h1 h2 (RpK.mapPut hk hr h3)
theorem RpT.mapPut {ds : List D} {e : D} {k : List Key} {u : V} (hk : KeysD ds k) (hr : Rp S F e u) : ∀ {kvs : List (D × D)} {es : List (List Key × V)}, RpT S F kvs es → RpT S F (kvs.map fun p => if D.beq p.1 (.tup ds) then (p.1, e) else p) (es.map fun kv => if kv.1 = k then (kv.1, u) else kv)
  | _, _, .nil => .nil
  | _, _, .cons (kds := kd) (ks := k') h1 h2 h3 => by
    rw [List.map_cons, List.map_cons]
    have q : (D.tup kd).beq (.tup ds) = decide (k' = k) := by
      have := h1.beqL hk
      rw [D.beq]
      exact this
    by_cases z : k' = k
    · rw [decide_eq_true z] at q
      rw [if_pos (show (D.tup kd).beq (.tup ds) = true from q), if_pos z]
      exact .cons h1 hr (RpT.mapPut hk hr h3)
    · rw [decide_eq_false z] at q
      rw [if_neg (show ¬ (D.tup kd).beq (.tup ds) = true by rw [q]; simp), if_neg z]
      exact .cons h1 h2 (RpT.mapPut hk hr h3)
theorem RpK.append : ∀ {kvs kvs' : List (D × D)} {es es' : List (Key × V)}, RpK S F kvs es → RpK S F kvs' es' → RpK S F (kvs ++ kvs') (es ++ es')
  | _, _, _, _, .nil, s => s
  | _, _, _, _, .cons a b t, s => .cons a b (RpK.append t s)
theorem RpT.append : ∀ {kvs kvs' : List (D × D)} {es es' : List (List Key × V)}, RpT S F kvs es → RpT S F kvs' es' → RpT S F (kvs ++ kvs') (es ++ es')
  | _, _, _, _, .nil, s => s
  | _, _, _, _, .cons a b t, s => .cons a b (RpT.append t s)
theorem RpK.len : ∀ {kvs : List (D × D)} {es : List (Key × V)}, RpK S F kvs es → kvs.length = es.length
  | _, _, .nil => rfl
  | _, _, .cons _ _ t => congrArg (· + 1) (RpK.len t)
theorem RpT.len : ∀ {kvs : List (D × D)} {es : List (List Key × V)}, RpT S F kvs es → kvs.length = es.length
  | _, _, .nil => rfl
  | _, _, .cons _ _ t => congrArg (· + 1) (RpT.len t)
theorem RpK.put {kvs : List (D × D)} {es : List (Key × V)} {d e : D} {k : Key} {u : V} (r : RpK S F kvs es) (hk : KeyD d k) (hr : Rp S F e u) : RpK S F (putD kvs d e) (putK es k u) := by
  unfold putD putK
  rw [r.any hk]
  split
  · exact RpK.mapPut hk hr r
  · exact r.append (.cons hk hr .nil)
theorem RpT.put {kvs : List (D × D)} {es : List (List Key × V)} {ds : List D} {e : D} {k : List Key} {u : V} (r : RpT S F kvs es) (hk : KeysD ds k) (hr : Rp S F e u) : RpT S F (putD kvs (.tup ds) e) (putK es k u) := by
  unfold putD putK
  rw [r.any hk]
  split
  · exact RpT.mapPut hk hr r
  · exact r.append (.cons hk hr .nil)
theorem putK_le {κ : Type} [DecidableEq κ] (es : List (κ × V)) (k : κ) (u : V) : (putK es k u).length ≤ es.length + 1 := by
  unfold putK
  split
  · rw [List.length_map]; omega
  · rw [List.length_append, List.length_singleton]; omega
/-- a key as it lies -/
theorem key_of_isKey (h : d.isKey = true) (r : Rp S F d v) : ∃ k, KeyD d k ∧ v = kV k := by
  cases d with
  | int i => cases r; exact ⟨.inl i, .inl ⟨i, rfl, rfl⟩, rfl⟩
  | str x => cases r with
    | str _ h1 h2 => exact ⟨.inr x, .inr ⟨x, rfl, rfl, h1, h2⟩, rfl⟩
  | _ => cases h
theorem keys_of_all : ∀ {ds : List D} {vs : List V}, ds.all D.isKey = true → RpL S F ds vs → ∃ ks, KeysD ds ks ∧ vs = ks.map kV
  | [], _, _, r => by cases r; exact ⟨[], trivial, rfl⟩
  | d :: ds, _, h, r => by
    cases r with
    | cons r t =>
      rw [List.all_cons, Bool.and_eq_true] at h
      obtain ⟨k, h1, rfl⟩ := key_of_isKey h.1 r
      obtain ⟨ks, h2, rfl⟩ := keys_of_all h.2 t
      exact ⟨k :: ks, ⟨h1, h2⟩, rfl⟩
theorem RdB.dctK {kvs : List (D × D)} (g : Good S G F σ H env) (h : RdB S F σ env (.dct false kvs) v) : ∃ p es, v = .ref p ∧ Rd H p (.dK es) ∧ RpK S F kvs es ∧ es.length ≤ sizeLine := by
  rcases h.elim g with h | ⟨a, rfl, es, h4, h5, h6⟩
  · cases h with
    | dctK h1 h2 h3 => exact ⟨_, _, rfl, .inr ⟨_, g.fh _ _ h1⟩, h2, h3⟩
  · exact ⟨_, es, rfl, .inl h4, h5, h6⟩
theorem RdB.dctT {kvs : List (D × D)} (g : Good S G F σ H env) (h : RdB S F σ env (.dct true kvs) v) : ∃ p es, v = .ref p ∧ Rd H p (.dT es) ∧ RpT S F kvs es ∧ es.length ≤ sizeLine := by
  rcases h.elim g with h | ⟨a, rfl, es, h4, h5, h6⟩
  · cases h with
    | dctT h1 h2 h3 => exact ⟨_, _, rfl, .inr ⟨_, g.fh _ _ h1⟩, h2, h3⟩
  · exact ⟨_, es, rfl, .inl h4, h5, h6⟩
theorem keyOk_mut {t : Bool} (h : keyOk t d = true) : d.mut = false := by
  cases t <;> cases d <;> simp [keyOk, D.isKey, D.mut] at h ⊢
/-- a look into a dict -/
theorem dget_of {t : Bool} {kvs : List (D × D)} (g : Good S G F σ H env) (r1 : RdB S F σ env (.dct t kvs) v) (r2 : RdB S F σ env d u) (hk : keyOk t d = true) : ∃ a o, v = .ref a ∧ DGet H a u o ∧ IsD H a ∧ RpO S F (valD kvs d) o := by
  have r2 := r2.rp g (keyOk_mut hk)
  cases t with
  | false =>
    obtain ⟨p, es, rfl, h1, h2, _⟩ := r1.dctK g
    obtain ⟨k, k1, rfl⟩ := key_of_isKey hk r2
    exact ⟨p, _, rfl, .inl ⟨es, k, h1, rfl, rfl⟩, .inl ⟨es, h1⟩, h2.val k1⟩
  | true =>
    cases d with
    | tup ds =>
      cases r2 with
      | tup f1 f2 f3 =>
        obtain ⟨p, es, rfl, h1, h2, _⟩ := r1.dctT g
        obtain ⟨ks, k1, rfl⟩ := keys_of_all hk f2
        exact ⟨p, _, rfl, .inr ⟨es, ks, _, h1, rfl, g.fh _ _ f1, rfl⟩, .inr ⟨es, h1⟩, h2.val k1⟩
    | _ => cases hk
/-- in, not in, d[k] by values -/
def rInDct : R2 := fun x y H Q => ∃ a o, y = .ref a ∧ DGet H a x o ∧ Q (.bl o.isSome) H
def rNotInDct : R2 := fun x y H Q => ∃ a o, y = .ref a ∧ DGet H a x o ∧ Q (.bl (!o.isSome)) H
theorem op_inDct (hu : X.A.units + 1 < cLine) : OpR X (compareOp .In) rInDct := by
  intro pins s σ H x y v u Q I rx ry h
  obtain ⟨a, o, rfl, g, q⟩ := h
  cases ry
  exact d_in hu I g rx fun s' I' => ⟨.bl _, H, I', rfl, q⟩
theorem op_notInDct (hu : X.A.units + 1 < cLine) : OpR X (compareOp .NotIn) rNotInDct := by
  intro pins s σ H x y v u Q I rx ry h
  obtain ⟨a, o, rfl, g, q⟩ := h
  cases ry
  exact d_notIn hu I g rx fun s' I' => ⟨.bl _, H, I', rfl, q⟩
def rIxDct : R2 := fun x y H Q => ∃ a v, x = .ref a ∧ DGet H a y (some v) ∧ Q v H
theorem ix_dct (hu : X.A.units + 1 < cLine) : IxR X rIxDct := by
  intro value slice pins s σ H x y v u Q I rx ry h hs
  obtain ⟨a, z, rfl, g, q⟩ := h
  cases rx
  exact PyProof.Rows.tail_any (dict_typeIs I g) PySem.F.slot_dict_getitem.lookup (d_getItem hu I g ry fun w' s' I' r => ⟨z, H, I', r, q⟩) hs
def dInX : D → D → M D
  | x, .dct t kvs => if keyOk t x then .ret (.bl (valD kvs x).isSome) else .fail
  | x, y => dIn x y
def dNotInX : D → D → M D
  | x, .dct t kvs => if keyOk t x then .ret (.bl (!(valD kvs x).isSome)) else .fail
  | x, y => dNotIn x y
theorem RpO.isSome {o : Option D} {w : Option V} (h : RpO S F o w) : w.isSome = o.isSome := by
  cases o <;> cases w <;> first | rfl | exact h.elim
theorem o_inX (hu : X.A.units + 65 < cLine) : OpD S X (compareOp .In) dInX := by
  obtain ⟨r, hr, k⟩ := o_in (S := S) hu
  refine ⟨_, hr.or (op_inDct (by omega)), fun G F σ H env x y d e Q g r1 r2 q => ?_⟩
  cases e with
  | dct t kvs =>
    have q' : (if keyOk t d then M.ret (D.bl (valD kvs d).isSome) else M.fail).wp (Post S G F σ env Q) := by cases d <;> exact q
    split at q'
    · obtain ⟨a, o, e1, e2, _, e3⟩ := dget_of g r2 r1 (by assumption)
      exact .inr ⟨a, o, e1, e2, by rw [e3.isSome]; exact Post.now q' g (.bl _)⟩
    · exact q'.elim
  | _ => exact .inl (k G F σ H env x y d _ Q g r1 r2 (by cases d <;> exact q))
theorem o_notInX (hu : X.A.units + 65 < cLine) : OpD S X (compareOp .NotIn) dNotInX := by
  obtain ⟨r, hr, k⟩ := o_notIn (S := S) hu
  refine ⟨_, hr.or (op_notInDct (by omega)), fun G F σ H env x y d e Q g r1 r2 q => ?_⟩
  cases e with
  | dct t kvs =>
    have q' : (if keyOk t d then M.ret (D.bl (!(valD kvs d).isSome)) else M.fail).wp (Post S G F σ env Q) := by cases d <;> exact q
    split at q'
    · obtain ⟨a, o, e1, e2, _, e3⟩ := dget_of g r2 r1 (by assumption)
      exact .inr ⟨a, o, e1, e2, by rw [e3.isSome]; exact Post.now q' g (.bl _)⟩
    · exact q'.elim
  | _ => exact .inl (k G F σ H env x y d _ Q g r1 r2 (by cases d <;> exact q))
end
end DL

set_option Elab.async false
set_option linter.all false
set_option maxRecDepth 100000
/-! DL4: tests, displays, subscripts, slices, calls of what is built in. -/
namespace DL
open PySem PySem.Spec L2
open PyProof.Rows hiding St

abbrev DT := DEnv → M Bool
abbrev DA := DEnv → M (List D)
def PostT (S : SA) (G F : Hp) (σ : L2.St) (env : DEnv) (Q : Bool → Hp → Prop) (b : Bool) : Prop := ∀ G' F' H', Ext G F G' F' → Good S G' F' σ H' env → Q b H'
def TT_ (S : SA) (m : DT) : TT := fun σ H Q => ∃ G F env, Good S G F σ H env ∧ (m env).wp (PostT S G F σ env Q)
def QT (S : SA) (X : Cx) (e : Expr) (m : DT) : Prop := PT X e (TT_ S m)
def QW (S : SA) (X : Cx) (e : Expr) (m : DT) : Prop := PW X e (TT_ S m)
abbrev RdBL (S : SA) (F : Hp) (σ : L2.St) (env : DEnv) : List D → List V → Prop := Paired (RdB S F σ env)
def PostA (S : SA) (G F : Hp) (σ : L2.St) (env : DEnv) (Q : List V → Hp → Prop) (ds : List D) : Prop := ∀ vs G' F' H', Ext G F G' F' → Good S G' F' σ H' env → RdBL S F' σ env ds vs → Q vs H'
def TAB_ (S : SA) (m : DA) : TA := fun σ H Q => ∃ G F env, Good S G F σ H env ∧ (m env).wp (PostA S G F σ env Q)
def QAB (S : SA) (X : Cx) (es : List Expr) (m : DA) : Prop := PA X es (TAB_ S m)
def PostAE (S : SA) (G F : Hp) (σ : L2.St) (env : DEnv) (Q : List V → Hp → Prop) (ds : List D) : Prop := ∀ vs G' F' H', Ext G F G' F' → Good S G' F' σ H' env → RpL S F' ds vs → Q vs H'
def TAE_ (S : SA) (m : DA) : TA := fun σ H Q => ∃ G F env, Good S G F σ H env ∧ (m env).wp (PostAE S G F σ env Q)
def QA (S : SA) (X : Cx) (es : List Expr) (m : DA) : Prop := PA X es (TAE_ S m)

section
variable {S : SA} {X : Cx} {G F G' F' H H' : Hp} {σ : L2.St} {env : DEnv} {d : D} {v : V} {p : Addr} {Q : VK} {m ma mb mc : DE} {t ta tb : DT} {ms : DA} {a b c e : Expr} {es rest : List Expr} {pos : Pos}
theorem postT_shift {Q : Bool → Hp → Prop} {k : Bool} {G1 F1 : Hp} (x : Ext G F G1 F1) (h : PostT S G F σ env Q k) : PostT S G1 F1 σ env Q k := fun G' F' H' e g => h G' F' H' (x.trans e) g
theorem postA_shift {Q : List V → Hp → Prop} {k : List D} {G1 F1 : Hp} (x : Ext G F G1 F1) (h : PostA S G F σ env Q k) : PostA S G1 F1 σ env Q k := fun vs G' F' H' e g r => h vs G' F' H' (x.trans e) g r
theorem postAE_shift {Q : List V → Hp → Prop} {k : List D} {G1 F1 : Hp} (x : Ext G F G1 F1) (h : PostAE S G F σ env Q k) : PostAE S G1 F1 σ env Q k := fun vs G' F' H' e g r => h vs G' F' H' (x.trans e) g r
/-! ### comparisons as values, as tests; chains -/
def asB : D → M Bool
  | .bl b => .ret b
  | _ => .fail
theorem asB_wp {P : Bool → Prop} {d : D} (h : (asB d).wp P) : ∃ b, d = .bl b ∧ P b := by
  cases d with
  | bl b => exact ⟨b, rfl, h⟩
  | _ => exact h.elim
theorem qcmp {o : CmpOp} {op : D → D → M D} (ho : OpD S X (compareOp o) op) (ha : QB S X a ma) (hb : QB S X b mb) (hm : behindInMarks o b = false := by first | exact nomark _ | rfl) : QE S X (.Compare a [o] [b] pos) (mBin op ma mb) := by
  obtain ⟨r, hr, k⟩ := ho
  exact pe_weak (pe_cmpR hr ha hb hm) fun σ H Q ⟨G, F, env, g, q⟩ => two ma mb (PP := fun G F => Post S G F σ env Q) g q (fun _ _ _ _ _ => post_shift) fun G F H x y d e g r1 r2 q => k G F σ H env x y d e Q g r1 r2 q
def mBinT (op : D → D → M D) (ma mb : DE) : DT := fun env => mBin op ma mb env >>= asB
theorem postB_of {Q : Bool → Hp → Prop} (h : (asB d).wp (PostT S G F σ env Q)) : Post S G F σ env (fun x H' => ∃ k, x = .bl k ∧ Q k H') d := fun v G' F' H' e g r => by
  obtain ⟨b, rfl, q⟩ := asB_wp h
  cases r
  exact ⟨b, rfl, q G' F' H' e g⟩
theorem qtcmp {o : CmpOp} {op : D → D → M D} (ho : OpD S X (compareOp o) op) (ha : QB S X a ma) (hb : QB S X b mb) (hm : behindInMarks o b = false := by first | exact nomark _ | rfl) : QT S X (.Compare a [o] [b] pos) (mBinT op ma mb) := by
  obtain ⟨r, hr, k⟩ := ho
  exact pt_weak (pt_cmpR hr ha hb hm) fun σ H Q ⟨G, F, env, g, q⟩ => two ma mb (PP := fun G F => Post S G F σ env _) g (M.wp_mono (M.wpb q) fun d => postB_of) (fun _ _ _ _ _ => post_shift) fun G F H x y d e g r1 r2 q => k G F σ H env x y d e _ g r1 r2 q
def mChain (op op' : D → D → M D) (ma mb mc : DE) : DE := fun env => ma env >>= fun x => mb env >>= fun y => op x y >>= asB >>= fun k => if k then mc env >>= fun z => op' y z else .ret (.bl false)
theorem chain_core {op op' : D → D → M D} {r r' : R2}
    (k : ∀ (G F : Hp) (σ : L2.St) (H : Hp) (env : DEnv) (x y : V) (d e : D) (Q : VK), Good S G F σ H env → RdB S F σ env d x → RdB S F σ env e y → (op d e).wp (Post S G F σ env Q) → r x y H Q)
    (k' : ∀ (G F : Hp) (σ : L2.St) (H : Hp) (env : DEnv) (x y : V) (d e : D) (Q : VK), Good S G F σ H env → RdB S F σ env d x → RdB S F σ env e y → (op' d e).wp (Post S G F σ env Q) → r' x y H Q)
    (g : Good S G F σ H env) (q : (mChain op op' ma mb mc env).wp (Post S G F σ env Q)) : tChain r r' (TB_ S ma) (TB_ S mb) (TB_ S mc) σ H Q := by
  refine ⟨G, F, env, g, M.wp_mono (M.wpb q) fun d q x G1 F1 H1 e1 g1 r1 => ⟨G1, F1, env, g1, M.wp_mono (M.wpb q) fun d2 q y G2 F2 H2 e2 g2 r2 => ?_⟩⟩
  refine k G2 F2 σ H2 env x y d d2 _ g2 (r1.mono e2.f) r2 (M.wp_mono (M.wpb (M.wpb q)) fun d3 q z G3 F3 H3 e3 g3 r3 => ?_)
  obtain ⟨kk, ek, q'⟩ := asB_wp q
  subst ek
  cases r3
  refine ⟨kk, rfl, ?_⟩
  cases kk with
  | true =>
    rw [if_pos rfl] at q' ⊢
    refine ⟨G3, F3, env, g3, M.wp_mono (M.wpb q') fun d4 q w G4 F4 H4 e4 g4 r4 => ?_⟩
    exact k' G4 F4 σ H4 env y w d2 d4 Q g4 (r2.mono (e3.f.trans e4.f)) r4 (M.wp_mono q fun _ => post_shift (e1.trans (e2.trans (e3.trans e4))))
  | false =>
    rw [if_neg (by decide)] at q' ⊢
    exact (post_shift (e1.trans (e2.trans e3)) q').now g3 (.bl _)
theorem qchain {o o' : CmpOp} {op op' : D → D → M D} (ho : OpD S X (compareOp o) op) (ho' : OpD S X (compareOp o') op') (ha : QB S X a ma) (hb : QB S X b mb) (hc : QB S X c mc)
    (hm : lastMarks [o, o'] [b, c] = false := by with_unfolding_all rfl) : QE S X (.Compare a [o, o'] [b, c] pos) (mChain op op' ma mb mc) := by
  obtain ⟨r, hr, k⟩ := ho
  obtain ⟨r', hr', k'⟩ := ho'
  exact pe_weak (pe_chain hr hr' ha hb hc hm) fun σ H Q ⟨G, F, env, g, q⟩ => chain_core k k' g q
def mTE (m : DE) : DT := fun env => m env >>= asB
theorem qtchain {o o' : CmpOp} {op op' : D → D → M D} (ho : OpD S X (compareOp o) op) (ho' : OpD S X (compareOp o') op') (ha : QB S X a ma) (hb : QB S X b mb) (hc : QB S X c mc)
    (hm : lastMarks [o, o'] [b, c] = false := by with_unfolding_all rfl) : QT S X (.Compare a [o, o'] [b, c] pos) (mTE (mChain op op' ma mb mc)) := by
  obtain ⟨r, hr, k⟩ := ho
  obtain ⟨r', hr', k'⟩ := ho'
  exact pt_weak (pt_chain hr hr' ha hb hc hm) fun σ H Q ⟨G, F, env, g, q⟩ => chain_core k k' g (M.wp_mono (M.wpb q) fun d => postB_of)
/-! ### truth -/
def truM : D → M Bool
  | .non => .ret false
  | .bl b => .ret b
  | .int i => .ret (i != 0)
  | .str x => .ret ((x.length : Int) != 0)
  | .tup xs => .ret !xs.isEmpty
  | .lst xs => .ret !xs.isEmpty
  | _ => .fail
def mTru (m : DE) : DT := fun env => m env >>= truM
theorem isE {α β : Type} {xs : List α} {ys : List β} (h : xs.length = ys.length) : (!xs.isEmpty) = !ys.isEmpty := by
  cases xs <;> cases ys <;> simp at h ⊢
theorem tru_of {K : PySem.W.Frag} {P : Bool → Prop} (g : Good S G F σ H env) (r : RdB S F σ env d v) (h : (truM d).wp P) : ∃ k, TruV K v H k ∧ P k := by
  cases d with
  | non => obtain rfl := r.non g; exact ⟨false, rfl, h⟩
  | bl b => obtain rfl := r.bl g; exact ⟨b, rfl, h⟩
  | int b => obtain rfl := r.int g; exact ⟨_, rfl, h⟩
  | str b => obtain ⟨rfl, _, z⟩ := r.str g; exact ⟨_, ⟨z, rfl⟩, h⟩
  | tup xs =>
    obtain ⟨p, vs, rfl, f1, h1, l1, z1⟩ := r.tup g
    exact ⟨_, .inr (.inl ⟨vs, .of h1, (isE l1.len)⟩), h⟩
  | lst xs =>
    obtain ⟨p, vs, rfl, h1, l1, z1⟩ := r.lst g
    exact ⟨_, .inl ⟨vs, .of h1, (isE l1.len)⟩, h⟩
  | dct _ _ => exact h.elim
  | dcn _ => exact h.elim
  | stt => exact h.elim
theorem qtru (ha : QB S X a ma) (he : ∀ whole, isTrue a X.env whole = (do let v ← whole; standAt a.pos; holding [v] (truthy v)) := by intro _; rfl) : QT S X a (mTru ma) :=
  pt_weak (pt_truth ha he) fun σ H Q ⟨G, F, env, g, q⟩ => ⟨G, F, env, g, M.wp_mono (M.wpb q) fun d q v G1 F1 H1 e1 g1 r1 => by
    obtain ⟨k, h1, h2⟩ := tru_of (K := X.K) g1 r1 q
    exact ⟨k, h1, h2 G1 F1 H1 e1 g1⟩⟩
/-! ### and, or, not, if else -/
def mAnd (ta tb : DT) : DT := fun env => ta env >>= fun k => if k then tb env else .ret false
def mOr (ta tb : DT) : DT := fun env => ta env >>= fun k => if k then .ret true else tb env
def mNot (ta : DT) : DT := fun env => ta env >>= fun k => .ret !k
theorem QW.test (h : QW S X e t) : QT S X e t := PW.pt h
theorem qw_and1 (ha : QT S X a ta) : QW S X (.BoolOp .And [a] pos) ta := pw_and1 ha
theorem qw_or1 (ha : QT S X a ta) : QW S X (.BoolOp .Or [a] pos) ta := pw_or1 ha
theorem pw_weak {t t' : TT} (h : PW X e t) (w : ∀ σ H Q, t' σ H Q → t σ H Q) : PW X e t' := ⟨fun wh pins s σ H Q I q => h.run wh pins s σ H Q I (w σ H Q q)⟩
theorem qw_and (ha : QT S X a ta) (hb : QW S X (.BoolOp .And (b :: rest) pos) tb) : QW S X (.BoolOp .And (a :: b :: rest) pos) (mAnd ta tb) :=
  pw_weak (pw_and ha hb) fun σ H Q ⟨G, F, env, g, q⟩ => ⟨G, F, env, g, M.wp_mono (M.wpb q) fun k q G1 F1 H1 e1 g1 => by
    cases k with
    | true => rw [if_pos rfl] at q ⊢; exact ⟨G1, F1, env, g1, M.wp_mono q fun _ => postT_shift e1⟩
    | false => rw [if_neg (by decide)] at q ⊢; exact q G1 F1 H1 e1 g1⟩
theorem qw_or (ha : QT S X a ta) (hb : QW S X (.BoolOp .Or (b :: rest) pos) tb) : QW S X (.BoolOp .Or (a :: b :: rest) pos) (mOr ta tb) :=
  pw_weak (pw_or ha hb) fun σ H Q ⟨G, F, env, g, q⟩ => ⟨G, F, env, g, M.wp_mono (M.wpb q) fun k q G1 F1 H1 e1 g1 => by
    cases k with
    | false => rw [if_neg (by decide)] at q ⊢; exact ⟨G1, F1, env, g1, M.wp_mono q fun _ => postT_shift e1⟩
    | true => rw [if_pos rfl] at q ⊢; exact q G1 F1 H1 e1 g1⟩
theorem qt_not (ha : QT S X a ta) : QT S X (.UnaryOp .Not a pos) (mNot ta) :=
  pt_weak (pt_not ha) fun σ H Q ⟨G, F, env, g, q⟩ => ⟨G, F, env, g, M.wp_mono (M.wpb q) fun k q G1 F1 H1 e1 g1 => q G1 F1 H1 e1 g1⟩
def mIfE (t : DT) (ma mb : DE) : DE := fun env => t env >>= fun k => if k then ma env else mb env
theorem qifE (hc : QT S X c t) (ha : QE S X a ma) (hb : QE S X b mb) : QE S X (.IfExp c a b pos) (mIfE t ma mb) :=
  pe_weak (pe_ifExp hc ha hb) fun σ H Q ⟨G, F, env, g, q⟩ => ⟨G, F, env, g, M.wp_mono (M.wpb q) fun k q G1 F1 H1 e1 g1 => by
    cases k with
    | true => rw [if_pos rfl] at q ⊢; exact ⟨G1, F1, env, g1, M.wp_mono q fun _ => post_shift e1⟩
    | false => rw [if_neg (by decide)] at q ⊢; exact ⟨G1, F1, env, g1, M.wp_mono q fun _ => post_shift e1⟩⟩
/-- and, or as values: by truth -/
def mAndV (ma mb : DE) : DE := fun env => ma env >>= fun x => truM x >>= fun k => if k then mb env else .ret x
def mOrV (ma mb : DE) : DE := fun env => ma env >>= fun x => truM x >>= fun k => if k then .ret x else mb env
theorem qe_one {op} (h : QE S X a m) : QE S X (.BoolOp op [a] pos) m := pe_one h
theorem qandV (ha : QE S X a ma) (hb : QE S X (.BoolOp .And (b :: rest) pos) mb) : QE S X (.BoolOp .And (a :: b :: rest) pos) (mAndV ma mb) :=
  pe_weak (pe_andT ha hb) fun σ H Q ⟨G, F, env, g, q⟩ => ⟨G, F, env, g, M.wp_mono (M.wpb q) fun d q v G1 F1 H1 e1 g1 r1 => by
    obtain ⟨k, h1, h2⟩ := tru_of (K := X.K) g1 (.inl r1) (M.wpb q)
    refine ⟨k, h1, ?_⟩
    cases k with
    | true => rw [if_pos rfl] at h2 ⊢; exact ⟨G1, F1, env, g1, M.wp_mono h2 fun _ => post_shift e1⟩
    | false => rw [if_neg (by decide)] at h2 ⊢; exact (post_shift e1 h2).now g1 r1⟩
theorem qorV (ha : QE S X a ma) (hb : QE S X (.BoolOp .Or (b :: rest) pos) mb) : QE S X (.BoolOp .Or (a :: b :: rest) pos) (mOrV ma mb) :=
  pe_weak (pe_orT ha hb) fun σ H Q ⟨G, F, env, g, q⟩ => ⟨G, F, env, g, M.wp_mono (M.wpb q) fun d q v G1 F1 H1 e1 g1 r1 => by
    obtain ⟨k, h1, h2⟩ := tru_of (K := X.K) g1 (.inl r1) (M.wpb q)
    refine ⟨k, h1, ?_⟩
    cases k with
    | false => rw [if_neg (by decide)] at h2 ⊢; exact ⟨G1, F1, env, g1, M.wp_mono h2 fun _ => post_shift e1⟩
    | true => rw [if_pos rfl] at h2 ⊢; exact (post_shift e1 h2).now g1 r1⟩
def mNotV (ma : DE) : DE := fun env => ma env >>= fun x => truM x >>= fun k => .ret (.bl !k)
theorem qnotV (ha : QB S X a ma) : QE S X (.UnaryOp .Not a pos) (mNotV ma) :=
  pe_weak (pe_notT ha) fun σ H Q ⟨G, F, env, g, q⟩ => ⟨G, F, env, g, M.wp_mono (M.wpb q) fun d q v G1 F1 H1 e1 g1 r1 => by
    obtain ⟨k, h1, h2⟩ := tru_of (K := X.K) g1 r1 (M.wpb q)
    exact ⟨k, h1, (post_shift e1 h2).now g1 (.bl _)⟩⟩
def mNeg (ma : DE) : DE := fun env => ma env >>= fun x => match x with
  | .int i => .ret (.int (-i))
  | _ => .fail
theorem qneg (ha : QB S X a ma) : QE S X (.UnaryOp .USub a pos) (mNeg ma) :=
  pe_weak (pe_un un_neg ha) fun σ H Q ⟨G, F, env, g, q⟩ => ⟨G, F, env, g, M.wp_mono (M.wpb q) fun d q v G1 F1 H1 e1 g1 r1 => by
    cases d with
    | int i =>
      obtain rfl := r1.int g1
      exact ⟨i, rfl, (post_shift e1 q).now g1 (.int _)⟩
    | _ => exact q.elim⟩
/-! ### rows of parts -/
def aNil : DA := fun _ => .ret []
def aCons (m : DE) (ms : DA) : DA := fun env => m env >>= fun x => ms env >>= fun xs => .ret (x :: xs)
theorem qab_nil : QAB S X [] aNil := pa_weak pa_nil fun σ H Q ⟨G, F, env, g, q⟩ => q [] G F H (Ext.refl _ _) g .nil
theorem qab_cons (ha : QB S X e m) (hr : QAB S X es ms) (hs : starEach (e :: es) X.env = (false, eval e X.env) :: starEach es X.env := by rfl) : QAB S X (e :: es) (aCons m ms) :=
  pa_weak (pa_cons ha hr hs) fun σ H Q ⟨G, F, env, g, q⟩ => ⟨G, F, env, g, M.wp_mono (M.wpb q) fun d q v G1 F1 H1 e1 g1 r1 => ⟨G1, F1, env, g1, M.wp_mono (M.wpb q) fun ds q vs G2 F2 H2 e2 g2 r2 =>
    q _ G2 F2 H2 (e1.trans e2) g2 (.cons (r1.mono e2.f) r2)⟩⟩
theorem qa_nil : QA S X [] aNil := pa_weak pa_nil fun σ H Q ⟨G, F, env, g, q⟩ => q [] G F H (Ext.refl _ _) g .nil
theorem qa_cons (ha : QE S X e m) (hr : QA S X es ms) (hs : starEach (e :: es) X.env = (false, eval e X.env) :: starEach es X.env := by rfl) : QA S X (e :: es) (aCons m ms) :=
  pa_weak (pa_cons ha hr hs) fun σ H Q ⟨G, F, env, g, q⟩ => ⟨G, F, env, g, M.wp_mono (M.wpb q) fun d q v G1 F1 H1 e1 g1 r1 => ⟨G1, F1, env, g1, M.wp_mono (M.wpb q) fun ds q vs G2 F2 H2 e2 g2 r2 =>
    q _ G2 F2 H2 (e1.trans e2) g2 (.cons (r1.mono e2.f) r2)⟩⟩
def mTup (ms : DA) : DE := fun env => ms env >>= fun xs => if xs.length ≤ sizeLine then .ret (.tup xs) else .fail
def mLst (ms : DA) : DE := fun env => ms env >>= fun xs => if xs.length ≤ sizeLine then .ret (.lst xs) else .fail
theorem qtup {x1} (h : QA S X es ms) : QE S X (.Tuple es x1 pos) (mTup ms) :=
  pe_weak (pe_tup h) fun σ H Q ⟨G, F, env, g, q⟩ => ⟨G, F, env, g, M.wp_mono (M.wpb q) fun ds q vs G1 F1 H1 e1 g1 r1 => by
    split at q
    · have n := r1.len
      exact ⟨by omega, fun p hp => (post_shift e1 q).tup g1 hp r1 (by omega)⟩
    · exact q.elim⟩
theorem qlst (h : QA S X es ms) : QF S X (.List es pos) (mLst ms) :=
  pe_weak (pe_lst h) fun σ H Q ⟨G, F, env, g, q⟩ => ⟨G, F, env, g, M.wp_mono (M.wpb q) fun ds q vs G1 F1 H1 e1 g1 r1 => by
    split at q
    · have n := r1.len
      exact ⟨by omega, fun p hp => (postF_shift e1 q).lst g1 hp r1 (by omega)⟩
    · exact q.elim⟩
/-! ### subscripts -/
theorem atI_rpl {ds : List D} {vs : List V} {i : Int} {d : D} (r : RpL S F ds vs) (h : atI ds i = some d) : ∃ v, atI vs i = some v ∧ Rp S F d v := by
  unfold atI at h ⊢
  rw [← r.len]
  cases e : ixN ds.length i with
  | none => rw [e] at h; cases h
  | some j => rw [e] at h; exact r.get h
def dIx : D → D → M D
  | .lst xs, .int i => M.opt (atI xs i)
  | .tup xs, .int i => M.opt (atI xs i)
  | .str x, .int i => match atI x.cps.toList i with
    | some c => .ret (.str ⟨#[c]⟩)
    | none => .fail
  | .dct t kvs, k => if keyOk t k then M.opt (valD kvs k) else .fail
  | _, _ => .fail
theorem atI_mem {α : Type} {xs : List α} {i : Int} {v : α} (h : atI xs i = some v) : v ∈ xs := by
  unfold atI at h
  cases e : ixN xs.length i with
  | none => rw [e] at h; cases h
  | some j => rw [e] at h; exact List.mem_of_getElem? h
theorem qix (hu : X.A.units + 1 < cLine) (ha : QB S X a ma) (hb : QB S X b mb) (hs : PlainIx b := by intro _ _; rfl) : QE S X (.Subscript a b pos) (mBin dIx ma mb) :=
  pe_weak (pe_ix ((ix_dct hu).or ix_seq) ha hb hs) fun σ H Q ⟨G, F, env, g, q⟩ => two ma mb (PP := fun G F => Post S G F σ env Q) g q (fun _ _ _ _ _ => post_shift) fun G F H x y d e g r1 r2 q => by
    cases d with
    | dct t kvs =>
      have q' : (if keyOk t e then M.opt (valD kvs e) else M.fail).wp (Post S G F σ env Q) := q
      split at q'
      · obtain ⟨w, hw, q2⟩ := M.wp_opt q'
        obtain ⟨a, o, e1, e2, _, e3⟩ := dget_of g r1 r2 (by assumption)
        rw [hw] at e3
        cases o with
        | none => exact e3.elim
        | some u => exact .inl ⟨a, u, e1, e2, q2.now g e3⟩
      · exact q'.elim
    | lst xs =>
      cases e with
      | int i =>
        obtain ⟨p, vs, rfl, h1, l1, z1⟩ := r1.lst g
        obtain rfl := r2.int g
        obtain ⟨u, hu, q⟩ := M.wp_opt q
        obtain ⟨w, hw, rw'⟩ := atI_rpl l1 hu
        exact .inr (.inl ⟨p, vs, i, w, rfl, rfl, .of h1, hw, q.now g rw'⟩)
      | _ => exact q.elim
    | tup xs =>
      cases e with
      | int i =>
        obtain ⟨p, vs, rfl, f1, h1, l1, z1⟩ := r1.tup g
        obtain rfl := r2.int g
        obtain ⟨u, hu, q⟩ := M.wp_opt q
        obtain ⟨w, hw, rw'⟩ := atI_rpl l1 hu
        exact .inr (.inr (.inl ⟨p, vs, i, w, rfl, rfl, .of h1, hw, q.now g rw'⟩))
      | _ => exact q.elim
    | str x =>
      cases e with
      | int i =>
        obtain ⟨rfl, ok, z⟩ := r1.str g
        obtain rfl := r2.int g
        simp only [dIx] at q
        split at q
        · rename_i c hc
          refine .inr (.inr (.inr ⟨x, i, c, rfl, rfl, z, hc, Post.now q g (.str _ ?_ ?_)⟩))
          · unfold PyData.strOk at ok ⊢
            rw [Array.all_eq_true_iff_forall_mem] at ok
            have hm : c ∈ x.cps := by have := atI_mem hc; simpa using this
            simpa using ok c hm
          · show 1 ≤ sizeLine; decide
        · exact q.elim
      | _ => exact q.elim
    | _ => exact q.elim
/-! ### slices -/
def PostO (S : SA) (G F : Hp) (σ : L2.St) (env : DEnv) (Q : Option Int → Hp → Prop) (o : Option Int) : Prop := ∀ G' F' H', Ext G F G' F' → Good S G' F' σ H' env → Q o H'
abbrev DO := DEnv → M (Option Int)
def TO_ (S : SA) (m : DO) : TO := fun σ H Q => ∃ G F env, Good S G F σ H env ∧ (m env).wp (PostO S G F σ env Q)
def QO (S : SA) (X : Cx) (o : Option Expr) (m : DO) : Prop := PO X o (TO_ S m)
theorem po_weak {X : Cx} {e : Option Expr} {t t' : TO} (h : PO X e t) (w : ∀ σ H Q, t' σ H Q → t σ H Q) : PO X e t' := ⟨fun pins s σ H Q I q => h.run pins s σ H Q I (w σ H Q q)⟩
def oNone : DO := fun _ => .ret none
def asI : D → M Int
  | .int i => .ret i
  | _ => .fail
theorem asI_wp {P : Int → Prop} {d : D} (h : (asI d).wp P) : ∃ b, d = .int b ∧ P b := by
  cases d with
  | int b => exact ⟨b, rfl, h⟩
  | _ => exact h.elim
def oSome (m : DE) : DO := fun env => m env >>= fun x => asI x >>= fun i => .ret (some i)
theorem qo_none : QO S X none oNone := po_weak po_none fun σ H Q ⟨G, F, env, g, q⟩ => q G F H (Ext.refl _ _) g
theorem qo_some (h : QB S X e m) : QO S X (some e) (oSome m) := po_weak (po_some h) fun σ H Q ⟨G, F, env, g, q⟩ => ⟨G, F, env, g, M.wp_mono (M.wpb q) fun d q v G1 F1 H1 e1 g1 r1 => by
  obtain ⟨i, rfl, q⟩ := asI_wp (M.wpb q)
  obtain rfl := r1.int g1
  exact ⟨i, rfl, q G1 F1 H1 e1 g1⟩⟩
def cutD {α : Type} (xs : List α) (lo hi : Option Int) : List α := (xs.drop (HT.sIx xs.length 0 lo)).take (HT.sIx xs.length xs.length hi - HT.sIx xs.length 0 lo)
theorem cut_rpl {ds : List D} {vs : List V} (r : RpL S F ds vs) (lo hi : Option Int) : RpL S F (cutD ds lo hi) (cutV vs lo hi) := by
  unfold cutD cutV
  rw [r.len]
  exact (r.drop _).take _
theorem cutV_le (vs : List V) (lo hi : Option Int) : (cutV vs lo hi).length ≤ vs.length := by
  unfold cutV
  rw [List.length_take, List.length_drop]
  omega
def dSl : D → Option Int → Option Int → M D
  | .lst xs, lo, hi => .ret (.lst (cutD xs lo hi))
  | .tup xs, lo, hi => .ret (.tup (cutD xs lo hi))
  | .str x, lo, hi => .ret (.str (cutS x lo hi))
  | _, _, _ => .fail
def dSlL : D → Option Int → Option Int → M D
  | .lst xs, lo, hi => .ret (.lst (cutD xs lo hi))
  | _, _, _ => .fail
def mSl (f : D → Option Int → Option Int → M D) (m : DE) (lo hi : DO) : DE := fun env => m env >>= fun x => lo env >>= fun l => hi env >>= fun h => f x l h
theorem sl_parts {PP : Hp → Hp → D → Prop} {f : D → Option Int → Option Int → M D} {lo hi : DO} {R : V → Option Int → Option Int → Hp → Prop}
    (g : Good S G F σ H env) (q : (mSl f m lo hi env).wp (PP G F)) (sh : ∀ G F G1 F1 d, Ext G F G1 F1 → PP G F d → PP G1 F1 d)
    (k : ∀ G F H x d l h, Good S G F σ H env → RdB S F σ env d x → (f d l h).wp (PP G F) → R x l h H) :
    TB_ S m σ H fun x H1 => TO_ S lo σ H1 fun l H2 => TO_ S hi σ H2 fun h H3 => R x l h H3 :=
  ⟨G, F, env, g, M.wp_mono (M.wpb q) fun d q v G1 F1 H1 e1 g1 r1 => ⟨G1, F1, env, g1, M.wp_mono (M.wpb q) fun l q G2 F2 H2 e2 g2 => ⟨G2, F2, env, g2, M.wp_mono (M.wpb q) fun h q G3 F3 H3 e3 g3 =>
    k G3 F3 H3 v d l h g3 (r1.mono (e2.f.trans e3.f)) (M.wp_mono q fun d3 => sh _ _ _ _ d3 (e1.trans (e2.trans e3)))⟩⟩⟩
theorem cutS_ok {x : Str} {lo hi : Option Int} (h : PyData.strOk x = true) : PyData.strOk (cutS x lo hi) = true := by
  unfold PyData.strOk cutS at *
  rw [Array.all_eq_true_iff_forall_mem] at h ⊢
  intro c hc
  refine h c ?_
  have hc' := List.mem_of_mem_take (List.mem_toArray.mp hc)
  have := List.mem_of_mem_drop hc'
  simpa using this
theorem qsl {lo hi : Option Expr} {p2 : Pos} {ml mh : DO} (ha : QB S X a ma) (hl : QO S X lo ml) (hh : QO S X hi mh) : QE S X (.Subscript a (.Slice lo hi none p2) pos) (mSl dSl ma ml mh) :=
  pe_weak (pe_slice (sl_list.or (sl_tupA.or sl_str)) ha hl hh) fun σ H Q ⟨G, F, env, g, q⟩ => sl_parts (PP := fun G F => Post S G F σ env Q) g q (fun _ _ _ _ _ => post_shift) fun G F H x d l h g r1 q => by
    cases d with
    | lst xs =>
      obtain ⟨p, vs, rfl, h1, l1, z1⟩ := r1.lst g
      exact .inl ⟨p, vs, rfl, .of h1, fun t ht => Post.lst q g ht (cut_rpl l1 l h) (Nat.le_trans (cutV_le _ _ _) z1)⟩
    | tup xs =>
      have w := r1.rpl g
      obtain ⟨p, vs, rfl, f1, h1, l1, z1⟩ := r1.tup g
      refine .inr (.inl ⟨p, vs, rfl, .of h1, fun e => ?_, fun e t ht => Post.tup q g ht (cut_rpl l1 l h) (Nat.le_trans (cutV_le _ _ _) z1)⟩)
      have ec : cutD xs l h = xs := by
        unfold cutD
        rw [l1.len, e.1, e.2, List.drop_zero, Nat.sub_zero, ← l1.len, List.take_length]
      rw [dSl, ec] at q
      exact Post.now q g w
    | str x =>
      obtain ⟨rfl, ok, z⟩ := r1.str g
      exact .inr (.inr ⟨x, rfl, z, Post.now q g (.str _ (cutS_ok ok) (Nat.le_trans (cutS_length _ _ _) z))⟩)
    | _ => exact q.elim
theorem qslF {lo hi : Option Expr} {p2 : Pos} {ml mh : DO} (ha : QB S X a ma) (hl : QO S X lo ml) (hh : QO S X hi mh) : QF S X (.Subscript a (.Slice lo hi none p2) pos) (mSl dSlL ma ml mh) :=
  pe_weak (pe_slice sl_list ha hl hh) fun σ H Q ⟨G, F, env, g, q⟩ => sl_parts (PP := fun G F => PostF S G F σ env Q) g q (fun _ _ _ _ _ => postF_shift) fun G F H x d l h g r1 q => by
    cases d with
    | lst xs =>
      obtain ⟨p, vs, rfl, h1, l1, z1⟩ := r1.lst g
      exact ⟨p, vs, rfl, .of h1, fun t ht => PostF.lst q g ht (cut_rpl l1 l h) (Nat.le_trans (cutV_le _ _ _) z1)⟩
    | _ => exact q.elim
def mRev (m : DE) : DE := fun env => m env >>= fun x => match x with
  | .lst xs => .ret (.lst xs.reverse)
  | _ => .fail
theorem qrev {k : Nat} {p1 p2 p3 : Pos} (ha : QB S X a ma) : QF S X (.Subscript a (.Slice none none (some (.UnaryOp .USub (.Constant (.int 1) k p1) p2)) p3) pos) (mRev ma) :=
  pe_weak (pe_revL ha) fun σ H Q ⟨G, F, env, g, q⟩ => ⟨G, F, env, g, M.wp_mono (M.wpb q) fun d q v G1 F1 H1 e1 g1 r1 => by
    cases d with
    | lst xs =>
      obtain ⟨p, vs, rfl, h1, l1, z1⟩ := r1.lst g1
      exact ⟨p, vs, rfl, .of h1, fun t ht => (postF_shift e1 q).lst g1 ht l1.reverse (by rw [List.length_reverse]; exact z1)⟩
    | _ => exact q.elim⟩
end
end DL

set_option Elab.async false
set_option linter.all false
set_option maxRecDepth 100000
/-! DL5: what is built in, called. -/
namespace DL
open PySem PySem.Spec L2
open PyProof.Rows hiding St

def CallD (S : SA) (X : Cx) (f : Value) (op : List D → M D) : Prop := ∃ r : List V → Hp → VK → Prop, CallR X f r ∧ ∀ (G F : Hp) (σ : L2.St) (H : Hp) (env : DEnv) (vs : List V) (ds : List D) (Q : VK),
  Good S G F σ H env → RdBL S F σ env ds vs → (op ds).wp (Post S G F σ env Q) → r vs H Q
def CallF (S : SA) (X : Cx) (f : Value) (op : List D → M D) : Prop := ∃ r : List V → Hp → VK → Prop, CallR X f r ∧ ∀ (G F : Hp) (σ : L2.St) (H : Hp) (env : DEnv) (vs : List V) (ds : List D) (Q : VK),
  Good S G F σ H env → RdBL S F σ env ds vs → (op ds).wp (PostF S G F σ env Q) → r vs H Q
def mCall (op : List D → M D) (ms : DA) : DE := fun env => ms env >>= op
section
variable {S : SA} {X : Cx} {G F G' F' H H' : Hp} {σ : L2.St} {env : DEnv} {d : D} {v : V} {p : Addr} {Q : VK} {m ma mb mc : DE} {t ta tb : DT} {ms : DA} {a b c e : Expr} {es rest : List Expr} {pos pp : Pos} {x : Str} {op : List D → M D}
theorem callR_or {f : Value} {r r' : List V → Hp → VK → Prop} (h : CallR X f r) (h' : CallR X f r') : CallR X f (fun xs H Q => r xs H Q ∨ r' xs H Q) := by
  intro pins s σ H xs us Q I rv q
  rcases q with q | q
  · exact h pins s σ H xs us Q I rv q
  · exact h' pins s σ H xs us Q I rv q
theorem qcallB {id : String} (hc : CallD S X (.builtin id) op) (hg : Gl X x) (hm : X.mg x = none) (hv : bootBuiltins x = some (.builtin id)) (ha : QAB S X (e :: es) ms) (hn : x ≠ "__name__" := by decide) (hdb : (x == ("__debug__" : Str)) = false := by decide)
    (he : starEach (e :: es) X.env = (false, eval e X.env) :: starEach es X.env := by rfl) (hpl : (backTo pos (starEach es X.env)).any (·.1) = false := by rfl) : QE S X (.Call (.Name x pp) (e :: es) [] pos) (mCall op ms) := by
  obtain ⟨r, hr, k⟩ := hc
  exact pe_weak (pe_callB hr hg hm hv ha hn hdb he hpl) fun σ H Q ⟨G, F, env, g, q⟩ => ⟨G, F, env, g, M.wp_mono (M.wpb q) fun ds q vs G1 F1 H1 e1 g1 r1 => k G1 F1 σ H1 env vs ds Q g1 r1 (M.wp_mono q fun _ => post_shift e1)⟩
theorem qcallBF {id : String} (hc : CallF S X (.builtin id) op) (hg : Gl X x) (hm : X.mg x = none) (hv : bootBuiltins x = some (.builtin id)) (ha : QAB S X (e :: es) ms) (hn : x ≠ "__name__" := by decide) (hdb : (x == ("__debug__" : Str)) = false := by decide)
    (he : starEach (e :: es) X.env = (false, eval e X.env) :: starEach es X.env := by rfl) (hpl : (backTo pos (starEach es X.env)).any (·.1) = false := by rfl) : QF S X (.Call (.Name x pp) (e :: es) [] pos) (mCall op ms) := by
  obtain ⟨r, hr, k⟩ := hc
  exact pe_weak (pe_callB hr hg hm hv ha hn hdb he hpl) fun σ H Q ⟨G, F, env, g, q⟩ => ⟨G, F, env, g, M.wp_mono (M.wpb q) fun ds q vs G1 F1 H1 e1 g1 r1 => k G1 F1 σ H1 env vs ds Q g1 r1 (M.wp_mono q fun _ => postF_shift e1)⟩
theorem qcallT {T : String} (hc : CallD S X (.type T) op) (hg : Gl X x) (hm : X.mg x = none) (hv : bootBuiltins x = some (.type T)) (ha : QAB S X (e :: es) ms) (hn : x ≠ "__name__" := by decide) (hdb : (x == ("__debug__" : Str)) = false := by decide)
    (he : starEach (e :: es) X.env = (false, eval e X.env) :: starEach es X.env := by rfl) (hpl : (backTo pos (starEach es X.env)).any (·.1) = false := by rfl) : QE S X (.Call (.Name x pp) (e :: es) [] pos) (mCall op ms) := by
  obtain ⟨r, hr, k⟩ := hc
  exact pe_weak (pe_callTy hr hg hm hv ha hn hdb he hpl) fun σ H Q ⟨G, F, env, g, q⟩ => ⟨G, F, env, g, M.wp_mono (M.wpb q) fun ds q vs G1 F1 H1 e1 g1 r1 => k G1 F1 σ H1 env vs ds Q g1 r1 (M.wp_mono q fun _ => post_shift e1)⟩
theorem qcallTF {T : String} (hc : CallF S X (.type T) op) (hg : Gl X x) (hm : X.mg x = none) (hv : bootBuiltins x = some (.type T)) (ha : QAB S X (e :: es) ms) (hn : x ≠ "__name__" := by decide) (hdb : (x == ("__debug__" : Str)) = false := by decide)
    (he : starEach (e :: es) X.env = (false, eval e X.env) :: starEach es X.env := by rfl) (hpl : (backTo pos (starEach es X.env)).any (·.1) = false := by rfl) : QF S X (.Call (.Name x pp) (e :: es) [] pos) (mCall op ms) := by
  obtain ⟨r, hr, k⟩ := hc
  exact pe_weak (pe_callTy hr hg hm hv ha hn hdb he hpl) fun σ H Q ⟨G, F, env, g, q⟩ => ⟨G, F, env, g, M.wp_mono (M.wpb q) fun ds q vs G1 F1 H1 e1 g1 r1 => k G1 F1 σ H1 env vs ds Q g1 r1 (M.wp_mono q fun _ => postF_shift e1)⟩
theorem rdb1 {vs : List V} (h : RdBL S F σ env [d] vs) : ∃ v, vs = [v] ∧ RdB S F σ env d v := by
  cases h with
  | cons r t => cases t; exact ⟨_, rfl, r⟩
theorem rdb2 {vs : List V} {d' : D} (h : RdBL S F σ env [d, d'] vs) : ∃ v u, vs = [v, u] ∧ RdB S F σ env d v ∧ RdB S F σ env d' u := by
  cases h with
  | cons r t =>
    cases t with
    | cons r' t => cases t; exact ⟨_, _, rfl, r, r'⟩
/-! ### len -/
def dLen : List D → M D
  | [.lst xs] => .ret (.int xs.length)
  | [.tup xs] => .ret (.int xs.length)
  | [.str x] => .ret (.int x.length)
  | _ => .fail
theorem c_len : CallD S X (.builtin "len") dLen := ⟨_, call_len, fun G F σ H env vs ds Q g r q => by
  unfold dLen at q
  split at q
  · obtain ⟨v, rfl, r1⟩ := rdb1 r
    obtain ⟨p, vs, rfl, h1, l1, z1⟩ := r1.lst g
    exact ⟨_, vs.length, rfl, .inl ⟨vs, .of h1, rfl⟩, by rw [← l1.len]; exact Post.now q g (.int _)⟩
  · obtain ⟨v, rfl, r1⟩ := rdb1 r
    obtain ⟨p, vs, rfl, f1, h1, l1, z1⟩ := r1.tup g
    exact ⟨_, vs.length, rfl, .inr ⟨vs, .of h1, rfl⟩, by rw [← l1.len]; exact Post.now q g (.int _)⟩
  · obtain ⟨v, rfl, r1⟩ := rdb1 r
    obtain ⟨rfl, ok, z⟩ := r1.str g
    exact ⟨_, _, rfl, ⟨z, rfl⟩, Post.now q g (.int _)⟩
  · exact q.elim⟩
/-! ### list(..), tuple(..) -/
def dList : List D → M D
  | [.lst xs] => .ret (.lst xs)
  | [.tup xs] => .ret (.lst xs)
  | _ => .fail
def dTuple : List D → M D
  | [.lst xs] => .ret (.tup xs)
  | [.tup xs] => .ret (.tup xs)
  | _ => .fail
theorem c_list : CallF S X (.type "list") dList := ⟨_, call_list_of, fun G F σ H env vs ds Q g r q => by
  unfold dList at q
  split at q
  · obtain ⟨v, rfl, r1⟩ := rdb1 r
    obtain ⟨p, vs, rfl, h1, l1, z1⟩ := r1.lst g
    exact ⟨p, vs, rfl, .inl (.of h1), fun t ht => PostF.lst q g ht l1 z1⟩
  · obtain ⟨v, rfl, r1⟩ := rdb1 r
    obtain ⟨p, vs, rfl, f1, h1, l1, z1⟩ := r1.tup g
    exact ⟨p, vs, rfl, .inr (.of h1), fun t ht => PostF.lst q g ht l1 z1⟩
  · exact q.elim⟩
theorem c_tuple : CallD S X (.type "tuple") dTuple := ⟨_, call_tuple_of, fun G F σ H env vs ds Q g r q => by
  unfold dTuple at q
  split at q
  · obtain ⟨v, rfl, r1⟩ := rdb1 r
    obtain ⟨p, vs, rfl, h1, l1, z1⟩ := r1.lst g
    exact ⟨p, vs, rfl, .inl ⟨.of h1, fun t ht => Post.tup q g ht l1 z1⟩⟩
  · obtain ⟨v, rfl, r1⟩ := rdb1 r
    have w := r1.rpl g
    obtain ⟨p, vs, rfl, f1, h1, l1, z1⟩ := r1.tup g
    exact ⟨p, vs, rfl, .inr ⟨.of h1, Post.now q g w⟩⟩
  · exact q.elim⟩
/-! ### int, abs -/
def dInt : List D → M D
  | [.int i] => .ret (.int i)
  | [.bl k] => .ret (.int (if k then 1 else 0))
  | _ => .fail
theorem c_int : CallD S X (.type "int") dInt := ⟨_, call_int1, fun G F σ H env vs ds Q g r q => by
  unfold dInt at q
  split at q
  · obtain ⟨v, rfl, r1⟩ := rdb1 r
    obtain rfl := r1.int g
    exact .inl ⟨_, rfl, Post.now q g (.int _)⟩
  · obtain ⟨v, rfl, r1⟩ := rdb1 r
    obtain rfl := r1.bl g
    exact .inr ⟨_, rfl, Post.now q g (.int _)⟩
  · exact q.elim⟩
def dAbs : List D → M D
  | [.int i] => .ret (.int (if i < 0 then -i else i))
  | _ => .fail
theorem c_abs : CallD S X (.builtin "abs") dAbs := ⟨_, call_abs, fun G F σ H env vs ds Q g r q => by
  unfold dAbs at q
  split at q
  · obtain ⟨v, rfl, r1⟩ := rdb1 r
    obtain rfl := r1.int g
    exact ⟨_, rfl, Post.now q g (.int _)⟩
  · exact q.elim⟩
/-! ### all, any, sum, max, min of a list -/
def blsOf : List D → Option (List Bool)
  | [] => some []
  | .bl b :: r => (blsOf r).map (b :: ·)
  | _ => none
def intsOf : List D → Option (List Int)
  | [] => some []
  | .int b :: r => (intsOf r).map (b :: ·)
  | _ => none
theorem bls_rpl : ∀ {ds : List D} {bs : List Bool} {vs : List V}, blsOf ds = some bs → RpL S F ds vs → vs = bs.map V.bl
  | [], bs, vs, h, r => by cases h; cases r; rfl
  | d :: ds, bs, vs, h, r => by
    cases r with
    | cons r t =>
      cases d with
      | bl b =>
        cases r
        simp only [blsOf, Option.map_eq_some_iff] at h
        obtain ⟨bs', h1, rfl⟩ := h
        rw [bls_rpl h1 t]; rfl
      | _ => simp [blsOf] at h
theorem ints_rpl : ∀ {ds : List D} {bs : List Int} {vs : List V}, intsOf ds = some bs → RpL S F ds vs → vs = bs.map V.int
  | [], bs, vs, h, r => by cases h; cases r; rfl
  | d :: ds, bs, vs, h, r => by
    cases r with
    | cons r t =>
      cases d with
      | int b =>
        cases r
        simp only [intsOf, Option.map_eq_some_iff] at h
        obtain ⟨bs', h1, rfl⟩ := h
        rw [ints_rpl h1 t]; rfl
      | _ => simp [intsOf] at h
def dOnL (f : List D → M D) : List D → M D
  | [.lst xs] => f xs
  | _ => .fail
theorem onL {P : D → Prop} {f : List D → M D} {ds : List D} {vs : List V} (g : Good S G F σ H env) (r : RdBL S F σ env ds vs) (q : (dOnL f ds).wp P) :
    ∃ p us xs, vs = [.ref p] ∧ H p = some (.lst us) ∧ RpL S F xs us ∧ us.length ≤ sizeLine ∧ (f xs).wp P := by
  unfold dOnL at q
  split at q
  · obtain ⟨v, rfl, r1⟩ := rdb1 r
    obtain ⟨p, us, rfl, h1, l1, z1⟩ := r1.lst g
    exact ⟨p, us, _, rfl, h1, l1, z1, q⟩
  · exact q.elim
def dAll : List D → M D := dOnL fun xs => M.opt (blsOf xs) >>= fun bs => .ret (.bl (bs.all id))
def dAny : List D → M D := dOnL fun xs => M.opt (blsOf xs) >>= fun bs => .ret (.bl (bs.any id))
def dSum : List D → M D := dOnL fun xs => M.opt (intsOf xs) >>= fun bs => .ret (.int bs.sum)
theorem c_all (hc : X.calm = true) : CallD S X (.builtin "all") dAll := ⟨_, cr_all hc, fun G F σ H env vs ds Q g r q => by
  obtain ⟨p, us, xs, rfl, h1, l1, _, q⟩ := onL g r q
  obtain ⟨bs, hb, q⟩ := M.wp_opt (M.wpb q)
  exact ⟨p, bs, rfl, bls_rpl hb l1 ▸ .of h1, Post.now q g (.bl _)⟩⟩
theorem c_any (hc : X.calm = true) : CallD S X (.builtin "any") dAny := ⟨_, cr_any hc, fun G F σ H env vs ds Q g r q => by
  obtain ⟨p, us, xs, rfl, h1, l1, _, q⟩ := onL g r q
  obtain ⟨bs, hb, q⟩ := M.wp_opt (M.wpb q)
  exact ⟨p, bs, rfl, bls_rpl hb l1 ▸ .of h1, Post.now q g (.bl _)⟩⟩
theorem c_sum (hc : X.calm = true) : CallD S X (.builtin "sum") dSum := ⟨_, cr_sum hc, fun G F σ H env vs ds Q g r q => by
  obtain ⟨p, us, xs, rfl, h1, l1, _, q⟩ := onL g r q
  obtain ⟨bs, hb, q⟩ := M.wp_opt (M.wpb q)
  exact ⟨p, bs, rfl, ints_rpl hb l1 ▸ .of h1, Post.now q g (.int _)⟩⟩
def maxI : List Int → Int
  | [] => 0
  | x :: r => r.foldl (fun m y => if m < y then y else m) x
def minI : List Int → Int
  | [] => 0
  | x :: r => r.foldl (fun m y => if y < m then y else m) x
theorem fold_max : ∀ (r : List Int) (x : Int), (r.foldl (fun m y => if m < y then y else m) x = x ∨ r.foldl (fun m y => if m < y then y else m) x ∈ r) ∧ x ≤ r.foldl (fun m y => if m < y then y else m) x ∧ ∀ y ∈ r, y ≤ r.foldl (fun m y => if m < y then y else m) x
  | [], x => ⟨.inl rfl, Int.le_refl _, fun _ h => nomatch h⟩
  | z :: r, x => by
    rw [List.foldl_cons]
    obtain ⟨h1, h2, h3⟩ := fold_max r (if x < z then z else x)
    have hz : z ≤ (if x < z then z else x) ∧ x ≤ (if x < z then z else x) := by split <;> omega
    refine ⟨?_, by omega, fun y hy => ?_⟩
    · rcases h1 with h1 | h1
      · rw [h1]; split
        · exact .inr (List.mem_cons_self ..)
        · exact .inl rfl
      · exact .inr (List.mem_cons_of_mem _ h1)
    · rcases List.mem_cons.mp hy with rfl | hy
      · omega
      · exact h3 y hy
theorem fold_min : ∀ (r : List Int) (x : Int), (r.foldl (fun m y => if y < m then y else m) x = x ∨ r.foldl (fun m y => if y < m then y else m) x ∈ r) ∧ r.foldl (fun m y => if y < m then y else m) x ≤ x ∧ ∀ y ∈ r, r.foldl (fun m y => if y < m then y else m) x ≤ y
  | [], x => ⟨.inl rfl, Int.le_refl _, fun _ h => nomatch h⟩
  | z :: r, x => by
    rw [List.foldl_cons]
    obtain ⟨h1, h2, h3⟩ := fold_min r (if z < x then z else x)
    have hz : (if z < x then z else x) ≤ z ∧ (if z < x then z else x) ≤ x := by split <;> omega
    refine ⟨?_, by omega, fun y hy => ?_⟩
    · rcases h1 with h1 | h1
      · rw [h1]; split
        · exact .inr (List.mem_cons_self ..)
        · exact .inl rfl
      · exact .inr (List.mem_cons_of_mem _ h1)
    · rcases List.mem_cons.mp hy with rfl | hy
      · omega
      · exact h3 y hy
theorem maxI_spec {l : List Int} (h : 0 < l.length) : maxI l ∈ l ∧ ∀ y ∈ l, y ≤ maxI l := by
  cases l with
  | nil => cases h
  | cons x r =>
    obtain ⟨h1, h2, h3⟩ := fold_max r x
    refine ⟨?_, fun y hy => ?_⟩
    · rcases h1 with h1 | h1
      · show r.foldl _ x ∈ _
        rw [h1]; exact List.mem_cons_self ..
      · exact List.mem_cons_of_mem _ h1
    · rcases List.mem_cons.mp hy with rfl | hy
      · exact h2
      · exact h3 y hy
theorem minI_spec {l : List Int} (h : 0 < l.length) : minI l ∈ l ∧ ∀ y ∈ l, minI l ≤ y := by
  cases l with
  | nil => cases h
  | cons x r =>
    obtain ⟨h1, h2, h3⟩ := fold_min r x
    refine ⟨?_, fun y hy => ?_⟩
    · rcases h1 with h1 | h1
      · show r.foldl _ x ∈ _
        rw [h1]; exact List.mem_cons_self ..
      · exact List.mem_cons_of_mem _ h1
    · rcases List.mem_cons.mp hy with rfl | hy
      · exact h2
      · exact h3 y hy
def dMax : List D → M D
  | [.int i, .int j] => .ret (.int (if j > i then j else i))
  | [.lst xs] => M.opt (intsOf xs) >>= fun bs => if 0 < bs.length then .ret (.int (maxI bs)) else .fail
  | _ => .fail
def dMin : List D → M D
  | [.int i, .int j] => .ret (.int (if j < i then j else i))
  | [.lst xs] => M.opt (intsOf xs) >>= fun bs => if 0 < bs.length then .ret (.int (minI bs)) else .fail
  | _ => .fail
theorem c_max (hc : X.calm = true) : CallD S X (.builtin "max") dMax := ⟨_, callR_or (call_max2 hc) (cr_max hc), fun G F σ H env vs ds Q g r q => by
  unfold dMax at q
  split at q
  · obtain ⟨v, u, rfl, r1, r2⟩ := rdb2 r
    obtain rfl := r1.int g
    obtain rfl := r2.int g
    exact .inl ⟨_, _, rfl, Post.now q g (.int _)⟩
  · obtain ⟨v, rfl, r1⟩ := rdb1 r
    obtain ⟨p, us, rfl, h1, l1, _⟩ := r1.lst g
    obtain ⟨bs, hb, q⟩ := M.wp_opt (M.wpb q)
    split at q
    · rename_i h0
      refine .inr ⟨p, bs, rfl, ints_rpl hb l1 ▸ .of h1, h0, fun m hm hle => ?_⟩
      obtain ⟨s1, s2⟩ := maxI_spec h0
      have e : m = maxI bs := Int.le_antisymm (s2 m hm) (hle _ s1)
      rw [e]
      exact Post.now q g (.int _)
    · exact q.elim
  · exact q.elim⟩
theorem c_min (hc : X.calm = true) : CallD S X (.builtin "min") dMin := ⟨_, callR_or (call_min2 hc) (cr_min hc), fun G F σ H env vs ds Q g r q => by
  unfold dMin at q
  split at q
  · obtain ⟨v, u, rfl, r1, r2⟩ := rdb2 r
    obtain rfl := r1.int g
    obtain rfl := r2.int g
    exact .inl ⟨_, _, rfl, Post.now q g (.int _)⟩
  · obtain ⟨v, rfl, r1⟩ := rdb1 r
    obtain ⟨p, us, rfl, h1, l1, _⟩ := r1.lst g
    obtain ⟨bs, hb, q⟩ := M.wp_opt (M.wpb q)
    split at q
    · rename_i h0
      refine .inr ⟨p, bs, rfl, ints_rpl hb l1 ▸ .of h1, h0, fun m hm hle => ?_⟩
      obtain ⟨s1, s2⟩ := minI_spec h0
      have e : m = minI bs := Int.le_antisymm (hle _ s1) (s2 m hm)
      rw [e]
      exact Post.now q g (.int _)
    · exact q.elim
  · exact q.elim⟩
/-! ### range(..) -/
def rgD (a b : Int) : List D := (List.range (b - a).toNat).map fun i => D.int (a + (i : Nat))
theorem rg_rpl_map : ∀ (l : List Nat) (a : Int), RpL S F (l.map fun i => D.int (a + (i : Nat))) (l.map fun i => V.int (a + (i : Nat)))
  | [], _ => .nil
  | i :: l, a => .cons (.int _) (rg_rpl_map l a)
theorem rg_rpl (a b : Int) : RpL S F (rgD a b) (rgV a b) := rg_rpl_map _ a
def rgOk (a b : Int) : Bool := decide (-(2 ^ 62) ≤ a) && (decide (a < 2 ^ 62) && (decide (-(2 ^ 62) ≤ b) && (decide (b < 2 ^ 62) && decide ((b - a).toNat ≤ 2 ^ 24))))
theorem rgOk_iff {a b : Int} : rgOk a b = true → RgOk a b := fun h => by
  simp only [rgOk, Bool.and_eq_true, decide_eq_true_eq] at h
  exact ⟨h.1, h.2.1, h.2.2.1, h.2.2.2.1, h.2.2.2.2⟩
theorem rgV_le {a b : Int} (h : RgOk a b) : (rgV a b).length ≤ sizeLine := by
  rw [rgV_length, sizeLine_eq]
  exact h.2.2.2.2
def mRgL (f : List D → D) (ma mb : DE) : DE := fun env => ma env >>= fun x => mb env >>= fun y => asI x >>= fun i => asI y >>= fun j => if rgOk i j then .ret (f (rgD i j)) else .fail
def mRgL1 (f : List D → D) (ma : DE) : DE := fun env => ma env >>= fun x => asI x >>= fun j => if rgOk 0 j then .ret (f (rgD 0 j)) else .fail
theorem qlistRg1 {p1 p2 pos2 : Pos} (hc : X.calm = true) (hg : Gl X "list") (hm : X.mg "list" = none) (hg2 : Gl X "range") (hm2 : X.mg "range" = none) (ha : QB S X a ma)
    (n1 : starEach [.Call (.Name "range" p2) [a] [] pos2] X.env = (false, eval (.Call (.Name "range" p2) [a] [] pos2) X.env) :: starEach [] X.env := by rfl) (n2 : starEach [a] X.env = (false, eval a X.env) :: starEach [] X.env := by rfl) :
    QF S X (.Call (.Name "list" p1) [.Call (.Name "range" p2) [a] [] pos2] [] pos) (mRgL1 .lst ma) :=
  pe_weak (pe_listRg hc hg hm (prg_1 hg2 hm2 ha n2) n1) fun σ H Q ⟨G, F, env, g, q⟩ => ⟨G, F, env, g, M.wp_mono (M.wpb q) fun d q v G1 F1 H1 e1 g1 r1 => by
    obtain ⟨i, ei, q1⟩ := asI_wp (M.wpb q)
    subst ei
    obtain rfl := r1.int g1
    split at q1
    · have ok := rgOk_iff (by assumption)
      exact ⟨i, rfl, ok, fun t ht => (postF_shift e1 q1).lst g1 ht (rg_rpl _ _) (rgV_le ok)⟩
    · exact q1.elim⟩
theorem qlistRg2 {p1 p2 pos2 : Pos} (hc : X.calm = true) (hg : Gl X "list") (hm : X.mg "list" = none) (hg2 : Gl X "range") (hm2 : X.mg "range" = none) (ha : QB S X a ma) (hb : QB S X b mb)
    (n1 : starEach [.Call (.Name "range" p2) [a, b] [] pos2] X.env = (false, eval (.Call (.Name "range" p2) [a, b] [] pos2) X.env) :: starEach [] X.env := by rfl) (n2 : starEach [a, b] X.env = (false, eval a X.env) :: starEach [b] X.env := by rfl)
    (n3 : starEach [b] X.env = (false, eval b X.env) :: starEach [] X.env := by rfl) (n4 : (backTo pos2 (starEach [b] X.env)).any (·.1) = false := by rfl) :
    QF S X (.Call (.Name "list" p1) [.Call (.Name "range" p2) [a, b] [] pos2] [] pos) (mRgL .lst ma mb) :=
  pe_weak (pe_listRg hc hg hm (prg_2 hg2 hm2 ha hb n2 n3 n4) n1) fun σ H Q ⟨G, F, env, g, q⟩ => ⟨G, F, env, g, M.wp_mono (M.wpb q) fun d q v G1 F1 H1 e1 g1 r1 => ⟨G1, F1, env, g1, M.wp_mono (M.wpb q) fun d2 q v2 G2 F2 H2 e2 g2 r2 => by
    obtain ⟨i, ei, q1⟩ := asI_wp (M.wpb q)
    obtain ⟨j, ej, q2⟩ := asI_wp (M.wpb q1)
    subst ei ej
    obtain rfl := r1.int g1
    obtain rfl := r2.int g2
    split at q2
    · have ok := rgOk_iff (by assumption)
      exact ⟨i, j, rfl, rfl, ok, fun t ht => (postF_shift (e1.trans e2) q2).lst g2 ht (rg_rpl _ _) (rgV_le ok)⟩
    · exact q2.elim⟩⟩
theorem qtupRg1 {p1 p2 pos2 : Pos} (hc : X.calm = true) (hg : Gl X "tuple") (hm : X.mg "tuple" = none) (hg2 : Gl X "range") (hm2 : X.mg "range" = none) (ha : QB S X a ma)
    (n1 : starEach [.Call (.Name "range" p2) [a] [] pos2] X.env = (false, eval (.Call (.Name "range" p2) [a] [] pos2) X.env) :: starEach [] X.env := by rfl) (n2 : starEach [a] X.env = (false, eval a X.env) :: starEach [] X.env := by rfl) :
    QE S X (.Call (.Name "tuple" p1) [.Call (.Name "range" p2) [a] [] pos2] [] pos) (mRgL1 .tup ma) :=
  pe_weak (pe_tupRg hc hg hm (prg_1 hg2 hm2 ha n2) n1) fun σ H Q ⟨G, F, env, g, q⟩ => ⟨G, F, env, g, M.wp_mono (M.wpb q) fun d q v G1 F1 H1 e1 g1 r1 => by
    obtain ⟨i, ei, q1⟩ := asI_wp (M.wpb q)
    subst ei
    obtain rfl := r1.int g1
    split at q1
    · have ok := rgOk_iff (by assumption)
      exact ⟨i, rfl, ok, fun t ht => (post_shift e1 q1).tup g1 ht (rg_rpl _ _) (rgV_le ok)⟩
    · exact q1.elim⟩
end
end DL

set_option Elab.async false
set_option linter.all false
set_option maxRecDepth 100000
/-! DL6: targets, what is walked, statements, loops. -/
namespace DL
open PySem PySem.Spec L2
open PyProof.Rows hiding St

/-- how a block ends -/
inductive Fl where
  | nx | bk | ct | rt (d : D)
abbrev DS := DEnv → M (Fl × DEnv)
abbrev DG := D → DEnv → M DEnv
abbrev DI := DEnv → M (List D)
def EndD (S : SA) (D' : Ends) (F : Hp) (σ : L2.St) (H : Hp) : Fl → Prop
  | .nx => D'.nx σ H
  | .bk => D'.bk σ H
  | .ct => D'.ct σ H
  | .rt d => ∀ v, Rp S F d v → D'.rt v H
def PostS (S : SA) (G F : Hp) (D' : Ends) (r : Fl × DEnv) : Prop := ∀ σ G' F' H', Ext G F G' F' → Good S G' F' σ H' r.2 → EndD S D' F' σ H' r.1
def TS_ (S : SA) (m : DS) : TS := fun D' σ H => ∃ G F env, Good S G F σ H env ∧ (m env).wp (PostS S G F D')
def QS (S : SA) (X : Cx) (st : Stmt) (m : DS) : Prop := PS X st (TS_ S m)
def QSs (S : SA) (X : Cx) (sts : List Stmt) (m : DS) : Prop := PSs X sts (TS_ S m)
def wipeE (env : DEnv) : List Nat → DEnv
  | [] => env
  | v :: vs => (wipeE env vs).set v none
/-- only the names at ws are stored -/
def Only (ws : List Nat) (σ : L2.St) (env : DEnv) (σ' : L2.St) (env' : DEnv) : Prop := wipe σ' ws = wipe σ ws ∧ wipeE env' ws = wipeE env ws
def TG_ (S : SA) (ws : List Nat) (m : DG) : TG := fun v σ H Q => ∃ G F env d, Good S G F σ H env ∧ Rp S F d v ∧ (m d env).wp fun env' => ∀ σ', Only ws σ env σ' env' → Good S G F σ' H env' → Q σ' H
def QG (S : SA) (ws : List Nat) (X : Cx) (tg : Expr) (m : DG) : Prop := PG X tg (TG_ S ws m)
abbrev DGs := List D → DEnv → M DEnv
def TGs_ (S : SA) (ws : List Nat) (m : DGs) : TGs := fun vs σ H Q => ∃ G F env ds, Good S G F σ H env ∧ RpL S F ds vs ∧ (m ds env).wp fun env' => ∀ σ', Only ws σ env σ' env' → Good S G F σ' H env' → Q σ' H
def QGs (S : SA) (ws : List Nat) (X : Cx) (ts : List Expr) (m : DGs) : Prop := PGs X ts (TGs_ S ws m)
theorem pgs_weak {X : Cx} {es : List Expr} {t t' : TGs} (h : PGs X es t) (w : ∀ v σ H Q, t' v σ H Q → t v σ H Q) : PGs X es t' := ⟨fun pins s σ H v u Q I r q => h.run pins s σ H v u Q I r (w v σ H Q q)⟩

section
variable {S : SA} {X : Cx} {G F G' F' H H' : Hp} {σ : L2.St} {env : DEnv} {d : D} {v : V} {p : Addr} {Q : VK} {m ma mb mc : DE} {t ta tb : DT} {ms : DA} {a b c e : Expr} {es rest : List Expr} {pos pp : Pos} {x : Str} {i : Nat}
/-! ### storing at a name -/
theorem Good.setVal (g : Good S G F σ H env) (r : Rp S F d v) : Good S G F (σ.set i (some v)) H (env.set i (some (.val d))) := by
  refine ⟨g.kp, g.fg, g.st, g.ns, g.nc, by rw [List.length_set, List.length_set]; exact g.len, fun j sl e => ?_, fun j k dj dk a e1 e2 e3 e4 => ?_⟩
  · by_cases hij : i = j
    · subst hij
      have hi : i < env.length := by
        rcases Nat.lt_or_ge i env.length with h | h
        · exact h
        · rw [List.getElem?_eq_none (by rw [List.length_set]; exact h)] at e; cases e
      rw [List.getElem?_set_self hi] at e
      cases e
      exact ⟨v, List.getElem?_set_self (by rw [g.len]; exact hi), r⟩
    · rw [List.getElem?_set_ne hij] at e
      have q := g.slot j sl e
      cases sl with
      | val d' =>
        obtain ⟨u, h1, h2⟩ := q
        exact ⟨u, by rw [List.getElem?_set_ne hij]; exact h1, h2⟩
      | bor d' =>
        obtain ⟨u, h1, h2⟩ := q
        exact ⟨u, by rw [List.getElem?_set_ne hij]; exact h1, h2⟩
      | own d' =>
        obtain ⟨a, h1, h2⟩ := q
        exact ⟨a, by rw [List.getElem?_set_ne hij]; exact h1, h2⟩
  · have nj : i ≠ j := by
      rintro rfl
      rcases Nat.lt_or_ge i env.length with h | h
      · rw [List.getElem?_set_self h] at e1; cases e1
      · rw [List.getElem?_eq_none (by rw [List.length_set]; exact h)] at e1; cases e1
    have nk : i ≠ k := by
      rintro rfl
      rcases Nat.lt_or_ge i env.length with h | h
      · rw [List.getElem?_set_self h] at e2; cases e2
      · rw [List.getElem?_eq_none (by rw [List.length_set]; exact h)] at e2; cases e2
    rw [List.getElem?_set_ne nj] at e1 e3
    rw [List.getElem?_set_ne nk] at e2 e4
    exact g.dist j k dj dk a e1 e2 e3 e4
theorem Good.setOwn (g : Good S G F σ H env) (f : FreshR S G F σ H env p d) : Good S G F (σ.set i (some (.ref p))) H (env.set i (some (.own d))) := by
  obtain ⟨n, n1, n2, hs, ow⟩ := f
  have hi : ∀ {j : Nat} {sl : Sl}, (env.set i (some sl))[i]? = some (some sl) → i < env.length := fun {j sl} e => by
    rcases Nat.lt_or_ge i env.length with h | h
    · exact h
    · rw [List.getElem?_eq_none (by rw [List.length_set]; exact h)] at e; cases e
  refine ⟨g.kp, g.fg, g.st, g.ns, g.nc, by rw [List.length_set, List.length_set]; exact g.len, fun j sl e => ?_, fun j k dj dk a e1 e2 e3 e4 => ?_⟩
  · by_cases hij : i = j
    · subst hij
      have hi : i < env.length := by
        rcases Nat.lt_or_ge i env.length with h | h
        · exact h
        · rw [List.getElem?_eq_none (by rw [List.length_set]; exact h)] at e; cases e
      rw [List.getElem?_set_self hi] at e
      cases e
      exact ⟨p, List.getElem?_set_self (by rw [g.len]; exact hi), n, n1, n2, ow⟩
    · rw [List.getElem?_set_ne hij] at e
      have q := g.slot j sl e
      cases sl with
      | val d' =>
        obtain ⟨u, h1, h2⟩ := q
        exact ⟨u, by rw [List.getElem?_set_ne hij]; exact h1, h2⟩
      | bor d' =>
        obtain ⟨u, h1, h2⟩ := q
        exact ⟨u, by rw [List.getElem?_set_ne hij]; exact h1, h2⟩
      | own d' =>
        obtain ⟨a, h1, h2⟩ := q
        exact ⟨a, by rw [List.getElem?_set_ne hij]; exact h1, h2⟩
  · by_cases nj : i = j
    · by_cases nk : i = k
      · rw [← nj, ← nk]
      · subst nj
        rw [List.getElem?_set_ne nk] at e2 e4
        have hi : i < env.length := by
          rcases Nat.lt_or_ge i env.length with h | h
          · exact h
          · rw [List.getElem?_eq_none (by rw [List.length_set]; exact h)] at e1; cases e1
        rw [List.getElem?_set_self (by rw [g.len]; exact hi)] at e3
        cases e3
        exact absurd e4 (hs k dk e2)
    · by_cases nk : i = k
      · subst nk
        rw [List.getElem?_set_ne nj] at e1 e3
        have hi : i < env.length := by
          rcases Nat.lt_or_ge i env.length with h | h
          · exact h
          · rw [List.getElem?_eq_none (by rw [List.length_set]; exact h)] at e2; cases e2
        rw [List.getElem?_set_self (by rw [g.len]; exact hi)] at e4
        cases e4
        exact absurd e3 (hs j dj e1)
      · rw [List.getElem?_set_ne nj] at e1 e3
        rw [List.getElem?_set_ne nk] at e2 e4
        exact g.dist j k dj dk a e1 e2 e3 e4
/-- an own list (or dict) from now on stands still -/
theorem Good.frzCore {a : Addr} {o : HO} (g : Good S G F σ H env) (e : env[i]? = some (some (.own d))) (h1 : σ[i]? = some (some (.ref a))) (h2 : G a = none) (h3 : a ≠ S.sa) (h4 : a ≠ S.ca) (hk : ∀ b, b ≠ a → H' b = H b) (ho : H' a = some o) (r : Rp S (upd F a o) d (.ref a)) :
    ∃ G' F', Ext G F G' F' ∧ Good S G' F' σ H' (env.set i (some (.val d))) := by
  have hi : i < env.length := (List.getElem?_eq_some_iff.mp e).1
  have nf : F a = none := g.fg.no h2
  refine ⟨upd G a o, upd F a o, ⟨sub_upd h2, sub_upd nf, fun b hb hb' => ?_⟩, ⟨fun b u q => ?_, fun b u q => ?_, ⟨g.st.1, ?_⟩, ?_, ?_, by rw [List.length_set]; exact g.len, fun j sl q => ?_, fun j k dj dk b e1 e2 e3 e4 => ?_⟩⟩
  · have na : b ≠ a := fun z => hb' (by rw [z]; exact h2)
    rw [upd_ne na]; exact hb
  · by_cases z : b = a
    · subst z; rw [upd_same] at q; cases q; exact ho
    · rw [upd_ne z] at q; rw [hk b z]; exact g.kp b u q
  · by_cases z : b = a
    · subst z; rw [upd_same] at q ⊢; exact q
    · rw [upd_ne z] at q ⊢; exact g.fg b u q
  · obtain ⟨_, n, cs, q1, q2, q3⟩ := g.st
    exact ⟨n, cs, by rw [hk _ h3.symm]; exact q1, by rw [hk _ h4.symm]; exact q2, q3⟩
  · rw [upd_ne h3.symm]; exact g.ns
  · rw [upd_ne h4.symm]; exact g.nc
  · by_cases hij : i = j
    · subst hij
      rw [List.getElem?_set_self hi] at q
      cases q
      exact ⟨_, h1, r⟩
    · rw [List.getElem?_set_ne hij] at q
      have w := g.slot j sl q
      cases sl with
      | val d' =>
        obtain ⟨u, w1, w2⟩ := w
        exact ⟨u, w1, w2.mono (sub_upd nf)⟩
      | bor d' =>
        obtain ⟨u, w1, w2⟩ := w
        exact ⟨u, w1, w2.mono (sub_upd h2) (sub_upd nf)⟩
      | own d' =>
        obtain ⟨b, w1, w2, w3, w4, w5⟩ := w
        have nb : b ≠ a := by
          rintro rfl
          exact hij (g.dist i j _ _ b e q h1 w1)
        exact ⟨b, w1, by rw [upd_ne nb]; exact w2, w3, w4, ownR_mono (sub_upd nf) (fun o z => by rw [hk b nb]; exact z) w5⟩
  · have nj : i ≠ j := by
      rintro rfl
      rw [List.getElem?_set_self hi] at e1; cases e1
    have nk : i ≠ k := by
      rintro rfl
      rw [List.getElem?_set_self hi] at e2; cases e2
    rw [List.getElem?_set_ne nj] at e1
    rw [List.getElem?_set_ne nk] at e2
    exact g.dist j k dj dk b e1 e2 e3 e4
theorem Good.frzAt (g : Good S G F σ H env) (e : env[i]? = some (some (.own d))) : ∃ p, Lk p H fun H' => ∃ G' F', Ext G F G' F' ∧ Good S G' F' σ H' (env.set i (some (.val d))) := by
  obtain ⟨a, h1, h2, h3, h4, h5⟩ := g.slot i _ e
  rcases ownR_frz (g.fg.no h2) h5 with ⟨o, ho, r⟩ | ⟨u, hu, mu, r⟩
  · exact ⟨a, .inl (g.frzCore e h1 h2 h3 h4 (fun _ _ => rfl) ho r)⟩
  · exact ⟨a, .inr ⟨u, hu, mu, fun od => g.frzCore e h1 h2 h3 h4 (fun b hb => upd_ne hb) upd_same (r od)⟩⟩
/-- a new object, kept and read from now on -/
theorem Good.newFrz (g : Good S G F σ H env) (hp : H p = none) (o : HO) : Ext G F (upd G p o) (upd F p o) ∧ Good S (upd G p o) (upd F p o) σ (upd H p o) env := by
  obtain ⟨g', x⟩ := (g.new hp o).frz upd_same (g.kp.no hp) (g.stNe hp).1 (g.stNe hp).2 (g.ownNe hp)
  exact ⟨x, g'⟩

/-! ### targets -/
theorem wipe_set {x : Option V} : ∀ {ws : List Nat} {i : Nat} {σ : L2.St}, i ∈ ws → wipe (σ.set i x) ws = wipe σ ws
  | w :: ws, i, σ, h => by
    show (wipe (σ.set i x) ws).set w none = (wipe σ ws).set w none
    by_cases hm : i ∈ ws
    · rw [wipe_set hm]
    · rcases List.mem_cons.mp h with e | e
      · subst e
        have out : ∀ (us : List Nat) (σ : L2.St), i ∉ us → wipe (σ.set i x) us = (wipe σ us).set i x := by
          intro us
          induction us with
          | nil => intro σ _; rfl
          | cons u us ih =>
            intro σ hu
            show (wipe (σ.set i x) us).set u none = ((wipe σ us).set u none).set i x
            rw [ih σ (fun z => hu (List.mem_cons_of_mem _ z)), List.set_comm _ _ (fun e => hu (by rw [e]; exact List.mem_cons_self ..))]
        rw [out ws σ hm, List.set_set]
      · exact absurd e hm
theorem wipeE_set {x : Option Sl} : ∀ {ws : List Nat} {i : Nat} {env : DEnv}, i ∈ ws → wipeE (env.set i x) ws = wipeE env ws
  | w :: ws, i, σ, h => by
    show (wipeE (σ.set i x) ws).set w none = (wipeE σ ws).set w none
    by_cases hm : i ∈ ws
    · rw [wipeE_set hm]
    · rcases List.mem_cons.mp h with e | e
      · subst e
        have out : ∀ (us : List Nat) (σ : DEnv), i ∉ us → wipeE (σ.set i x) us = (wipeE σ us).set i x := by
          intro us
          induction us with
          | nil => intro σ _; rfl
          | cons u us ih =>
            intro σ hu
            show (wipeE (σ.set i x) us).set u none = ((wipeE σ us).set u none).set i x
            rw [ih σ (fun z => hu (List.mem_cons_of_mem _ z)), List.set_comm _ _ (fun e => hu (by rw [e]; exact List.mem_cons_self ..))]
        rw [out ws σ hm, List.set_set]
      · exact absurd e hm
def gV (i : Nat) : DG := fun d env => .ret (env.set i (some (.val d)))
theorem qgv {ws : List Nat} (i : Nat) {x : Str} (hN : X.N.Nodup) (hw : i ∈ ws := by decide) (hi : X.N[i]? = some x := by rfl) (hx : Loc X.env.scope x := by first | exact Or.inl rfl | exact Or.inr rfl) (hf : X.fn x = true ∨ X.env.scope.names.lookup x = some .local := by first | exact .inl rfl | exact .inr rfl) : QG S ws X (.Name x pos) (gV i) :=
  pg_weak (pg_name hN hi hx hf) fun v σ H Q ⟨G, F, env, d, g, r, q⟩ => q _ ⟨wipe_set hw, wipeE_set hw⟩ (g.setVal r)
def gsNil : DGs := fun ds env => match ds with
  | [] => .ret env
  | _ :: _ => .fail
def gsCons (g : DG) (gs : DGs) : DGs := fun ds env => match ds with
  | [] => .fail
  | d :: ds => g d env >>= gs ds
theorem qgs_nil {ws : List Nat} : QGs S ws X [] gsNil := pgs_weak pgs_nil fun vs σ H Q ⟨G, F, env, ds, g, r, q⟩ => by
  cases r with
  | nil => exact ⟨rfl, q _ ⟨rfl, rfl⟩ g⟩
  | cons _ _ => exact q.elim
theorem qgs_cons {ws : List Nat} {g1 : DG} {gs : DGs} (h1 : QG S ws X e g1) (h2 : QGs S ws X es gs) (hs : (assignEach (e :: es) X.env).map (·.2) = assign e X.env :: (assignEach es X.env).map (·.2) := by rfl) : QGs S ws X (e :: es) (gsCons g1 gs) :=
  pgs_weak (pgs_cons h1 h2 hs) fun vs σ H Q ⟨G, F, env, ds, g, r, q⟩ => by
    cases r with
    | nil => exact q.elim
    | cons r t => exact ⟨_, _, rfl, G, F, env, _, g, r, M.wp_mono (M.wpb q) fun env' q σ' o' g' => ⟨G, F, env', _, g', t, M.wp_mono q fun env2 q σ2 o2 g2 => q σ2 ⟨o2.1.trans o'.1, o2.2.trans o'.2⟩ g2⟩⟩
def gT (n : Nat) (gs : DGs) : DG := fun d env => match d with
  | .tup xs => if xs.length = n then gs xs env else .fail
  | _ => .fail
theorem qgt {ws : List Nat} {k : Nat} {gs : DGs} (n : Nat) (h : QGs S ws X es gs) (hc : X.calm = true := by rfl) (hn : (assignEach es X.env).length = n := by rfl) (hst : (assignEach es X.env).findIdx? (·.1) = none := by rfl) : QG S ws X (.Tuple es k pos) (gT n gs) :=
  pg_weak (pg_tup hc h hn hst) fun v σ H Q ⟨G, F, env, d, g, r, q⟩ => by
    cases d with
    | tup xs =>
      cases r with
      | tup h1 h2 h3 =>
        simp only [gT] at q
        split at q
        · exact ⟨_, _, rfl, .of (g.fh _ _ h1), by rw [← h2.len]; assumption, G, F, env, _, g, h2, q⟩
        · exact q.elim
    | _ => exact q.elim

/-! ### small statements -/
def mSetV (i : Nat) (m : DE) : DS := fun env => m env >>= fun d => .ret (.nx, env.set i (some (.val d)))
def mSetO (i : Nat) (m : DE) : DS := fun env => m env >>= fun d => .ret (.nx, env.set i (some (.own d)))
theorem qset (i : Nat) {x : Str} {pos' : Pos} (hN : X.N.Nodup) (he : QE S X e m) (hi : X.N[i]? = some x := by rfl) (hx : Loc X.env.scope x := by first | exact Or.inl rfl | exact Or.inr rfl) (hs : swapsWith e (some (.Name x pos')) pos.line X.env = pure false := by rfl)
    (hf : X.fn x = true ∨ X.env.scope.names.lookup x = some .local := by first | exact .inl rfl | exact .inr rfl) : QS S X (.Assign [.Name x pos'] e pos) (mSetV i m) :=
  ps_weak (ps_set hN hi hx he hs hf) fun D' σ H ⟨G, F, env, g, q⟩ => ⟨G, F, env, g, M.wp_mono (M.wpb q) fun d q v G1 F1 H1 e1 g1 r1 => q _ G1 F1 H1 e1 (g1.setVal r1)⟩
theorem qsetO (i : Nat) {x : Str} {pos' : Pos} (hN : X.N.Nodup) (he : QF S X e m) (hi : X.N[i]? = some x := by rfl) (hx : Loc X.env.scope x := by first | exact Or.inl rfl | exact Or.inr rfl) (hs : swapsWith e (some (.Name x pos')) pos.line X.env = pure false := by rfl)
    (hf : X.fn x = true ∨ X.env.scope.names.lookup x = some .local := by first | exact .inl rfl | exact .inr rfl) : QS S X (.Assign [.Name x pos'] e pos) (mSetO i m) :=
  ps_weak (ps_set hN hi hx he hs hf) fun D' σ H ⟨G, F, env, g, q⟩ => ⟨G, F, env, g, M.wp_mono (M.wpb q) fun d q p G1 F1 H1 e1 g1 r1 => q _ G1 F1 H1 e1 (g1.setOwn r1)⟩
def mAsg (g : DG) (m : DE) : DS := fun env => m env >>= fun d => g d env >>= fun env' => .ret (.nx, env')
theorem qasg (ws : List Nat) {tg : Expr} {gg : DG} (he : QE S X e m) (hg : QG S ws X tg gg) (hs : swapsWithSole [tg] e pos.line X.env = pure false := by rfl) (hw : swappedStores [tg] e X.env = pure none := by rfl)
    (h1 : (assignEach [tg] X.env).map (·.2) = [assign tg X.env] := by rfl) : QS S X (.Assign [tg] e pos) (mAsg gg m) :=
  ps_weak (ps_asg he hg hs hw h1) fun D' σ H ⟨G, F, env, g, q⟩ => ⟨G, F, env, g, M.wp_mono (M.wpb q) fun d q v G1 F1 H1 e1 g1 r1 => ⟨G1, F1, env, d, g1, r1, M.wp_mono (M.wpb q) fun env' q σ' _ g' => q σ' G1 F1 H1 e1 g'⟩⟩
/-- a, b = x, y -/
def mPar (i j : Nat) (ms : DA) : DS := fun env => ms env >>= fun ds => match ds with
  | [d, d'] => .ret (.nx, (env.set i (some (.val d))).set j (some (.val d')))
  | _ => .fail
theorem qpar (i j : Nat) {x y : Str} {px py pt : Pos} {kt k2 pt2} (hN : X.N.Nodup) (ha : QA S X [a, b] ms) (hi : X.N[i]? = some x := by rfl) (hj : X.N[j]? = some y := by rfl) (hij : i ≠ j := by decide)
    (hx : X.env.scope.names.lookup x = some .local := by rfl) (hy : X.env.scope.names.lookup y = some .local := by rfl) (hc : X.calm = true := by rfl)
    (hw : swappedStores [.Tuple [.Name x px, .Name y py] kt pt] (.Tuple [a, b] k2 pt2) X.env = pure (some [x, y]) := by rfl)
    (hs : swapsWithSole [.Tuple [.Name x px, .Name y py] kt pt] (.Tuple [a, b] k2 pt2) pos.line X.env = pure false := by rfl) :
    QS S X (.Assign [.Tuple [.Name x px, .Name y py] kt pt] (.Tuple [a, b] k2 pt2) pos) (mPar i j ms) :=
  ps_weak (ps_par hc hN hi hj hij hx hy ha hw hs) fun D' σ H ⟨G, F, env, g, q⟩ => ⟨G, F, env, g, M.wp_mono (M.wpb q) fun ds q vs G1 F1 H1 e1 g1 r1 => by
    cases r1 with
    | nil => exact q.elim
    | cons r t =>
      cases t with
      | nil => exact q.elim
      | cons r' t =>
        cases t with
        | nil => exact ⟨_, _, rfl, q _ G1 F1 H1 e1 ((g1.setVal r).setVal r')⟩
        | cons _ _ => exact q.elim⟩
def mPar3 (i j l : Nat) (ms : DA) : DS := fun env => ms env >>= fun ds => match ds with
  | [d, d', d''] => .ret (.nx, ((env.set i (some (.val d))).set j (some (.val d'))).set l (some (.val d'')))
  | _ => .fail
def mExpr (m : DE) : DS := fun env => m env >>= fun _ => .ret (.nx, env)
theorem qexpr (he : QE S X e m) (hs : swapsWith e none pos.line X.env = pure false := by rfl) : QS S X (.Expr e pos) (mExpr m) :=
  ps_weak (ps_expr he hs) fun D' σ H ⟨G, F, env, g, q⟩ => ⟨G, F, env, g, M.wp_mono (M.wpb q) fun d q v G1 F1 H1 e1 g1 r1 => q σ G1 F1 H1 e1 g1⟩
def mRet (m : DE) : DS := fun env => m env >>= fun d => .ret (.rt d, env)
theorem qret (he : QE S X e m) : QS S X (.Return (some e) pos) (mRet m) :=
  ps_weak (ps_ret he) fun D' σ H ⟨G, F, env, g, q⟩ => ⟨G, F, env, g, M.wp_mono (M.wpb q) fun d q v G1 F1 H1 e1 g1 r1 => q σ G1 F1 H1 e1 g1 v r1⟩
def mRetN : DS := fun env => .ret (.rt .non, env)
theorem qretN : QS S X (.Return none pos) mRetN := ps_weak ps_retN fun D' σ H ⟨G, F, env, g, q⟩ => q σ G F H (Ext.refl _ _) g .non .non
def mPass : DS := fun env => .ret (.nx, env)
def mBrk : DS := fun env => .ret (.bk, env)
def mCnt : DS := fun env => .ret (.ct, env)
theorem qpass : QS S X (.Pass pos) mPass := ps_weak ps_pass fun D' σ H ⟨G, F, env, g, q⟩ => q σ G F H (Ext.refl _ _) g
theorem qbreak : QS S X (.Break pos) mBrk := ps_weak ps_break fun D' σ H ⟨G, F, env, g, q⟩ => q σ G F H (Ext.refl _ _) g
theorem qcontinue : QS S X (.Continue pos) mCnt := ps_weak ps_continue fun D' σ H ⟨G, F, env, g, q⟩ => q σ G F H (Ext.refl _ _) g
/-- a way that is never walked: nothing is told -/
def mNever : DS := fun _ => .fail
theorem qnever {st : Stmt} : QS S X st mNever := ps_weak ps_never fun D' σ H ⟨G, F, env, g, q⟩ => q.elim
theorem qsnever {sts : List Stmt} : QSs S X sts mNever := pss_weak pss_never fun D' σ H ⟨G, F, env, g, q⟩ => q.elim
/-! ### blocks -/
def mSeq (m1 m2 : DS) : DS := fun env => m1 env >>= fun r => match r.1 with
  | .nx => m2 r.2
  | f => .ret (f, r.2)
variable {D' : Ends}
theorem postS_shift {G1 F1 : Hp} {r : Fl × DEnv} (x : Ext G F G1 F1) (h : PostS S G F D' r) : PostS S G1 F1 D' r := fun σ G' F' H' e g => h σ G' F' H' (x.trans e) g
theorem qs_nil : QSs S X [] mPass := pss_weak pss_nil fun D' σ H ⟨G, F, env, g, q⟩ => q σ G F H (Ext.refl _ _) g
theorem qs_one {st : Stmt} {m : DS} (h : QS S X st m) : QSs S X [st] m := pss_one h
theorem qs_cons {st : Stmt} {sts : List Stmt} {m1 m2 : DS} (h1 : QS S X st m1) (h2 : QSs S X sts m2) : QSs S X (st :: sts) (mSeq m1 m2) :=
  pss_weak (pss_cons h1 h2) fun D' σ H ⟨G, F, env, g, q⟩ => ⟨G, F, env, g, M.wp_mono (M.wpb q) fun r q σ' G' F' H' e g' => by
    obtain ⟨f, env'⟩ := r
    cases f with
    | nx => exact ⟨G', F', env', g', M.wp_mono q fun _ => postS_shift e⟩
    | bk => exact (show PostS S G F D' (.bk, env') from q) σ' G' F' H' e g'
    | ct => exact (show PostS S G F D' (.ct, env') from q) σ' G' F' H' e g'
    | rt d => exact (show PostS S G F D' (.rt d, env') from q) σ' G' F' H' e g'⟩
/-- from here on the list at name i stands still -/
def mFrz (i : Nat) (m : DS) : DS := fun env => match env[i]? with
  | some (some (.own d)) => m (env.set i (some (.val d)))
  | _ => m env
theorem pss_lk {sts : List Stmt} {t : TS} (h : PSs X sts t) : PSs X sts (fun D' σ H => ∃ p, Lk p H (t D' σ)) := ⟨fun pins s σ H D' I q => by
  obtain ⟨p, q | ⟨u, hu, mu, q⟩⟩ := q
  · exact h.run pins s σ H D' I q
  · obtain ⟨od, I2⟩ := I.lock hu mu
    exact h.run pins s σ _ D' I2 (q od)⟩
theorem Lk.mono {R R' : Hp → Prop} (h : Lk p H R) (k : ∀ H, R H → R' H) : Lk p H R' := by
  rcases h with h | ⟨u, hu, mu, h⟩
  · exact .inl (k _ h)
  · exact .inr ⟨u, hu, mu, fun od => k _ (h od)⟩
theorem qfrz (i : Nat) {sts : List Stmt} {m : DS} (h : QSs S X sts m) : QSs S X sts (mFrz i m) := pss_weak (pss_lk h) fun D' σ H ⟨G, F, env, g, q⟩ => by
  unfold mFrz at q
  split at q
  · rename_i d e
    obtain ⟨p, k⟩ := g.frzAt e
    exact ⟨p, k.mono fun H' ⟨G', F', x, g'⟩ => ⟨G', F', _, g', M.wp_mono q fun _ => postS_shift x⟩⟩
  · exact ⟨0, .inl ⟨G, F, env, g, q⟩⟩
def mIf (t : DT) (m1 m2 : DS) : DS := fun env => t env >>= fun k => if k then m1 env else m2 env
theorem qif {c : Expr} {s1 s2 : List Stmt} {m1 m2 : DS} (hc : QT S X c t) (h1 : QSs S X s1 m1) (h2 : QSs S X s2 m2) : QS S X (.If c s1 s2 pos) (mIf t m1 m2) :=
  ps_weak (ps_if hc h1 h2) fun D' σ H ⟨G, F, env, g, q⟩ => ⟨G, F, env, g, M.wp_mono (M.wpb q) fun k q G1 F1 H1 e1 g1 => by
    cases k with
    | true => rw [if_pos rfl] at q ⊢; exact ⟨G1, F1, env, g1, M.wp_mono q fun _ => postS_shift e1⟩
    | false => rw [if_neg (by decide)] at q ⊢; exact ⟨G1, F1, env, g1, M.wp_mono q fun _ => postS_shift e1⟩⟩
/-! ### while: at most n turns are told -/
def mWhile (t : DT) (mb : DS) : Nat → DS
  | 0 => fun _ => .fail
  | n + 1 => fun env => t env >>= fun k => if k then mb env >>= fun r => (match r.1 with
    | .nx => mWhile t mb n r.2
    | .ct => mWhile t mb n r.2
    | .bk => .ret (.nx, r.2)
    | .rt d => .ret (.rt d, r.2)) else .ret (.nx, env)
theorem qwhile (n : Nat) {c : Expr} {body : List Stmt} {mb : DS} (hc : QT S X c t) (hb : QSs S X body mb) (hp : PassesOwn (model X.prog X.w) X.A X.env X.xe := by exact PassesOwn.never) : QS S X (.While c body [] pos) (mWhile t mb n) :=
  ps_weak (ps_while hp hc hb) fun D' σ H ⟨G, F, env, g, q⟩ => by
    refine ⟨fun m σ H => ∃ G2 F2 env2, Ext G F G2 F2 ∧ Good S G2 F2 σ H env2 ∧ (mWhile t mb m env2).wp (PostS S G F D'), ⟨n, G, F, env, Ext.refl _ _, g, q⟩, fun m σ H ⟨G2, F2, env2, x2, g2, q⟩ => ?_⟩
    cases m with
    | zero => exact q.elim
    | succ m =>
      refine ⟨G2, F2, env2, g2, M.wp_mono (M.wpb q) fun k q G3 F3 H3 e3 g3 => ?_⟩
      cases k with
      | false =>
        rw [if_neg (by decide)] at q ⊢
        exact q σ G3 F3 H3 (x2.trans e3) g3
      | true =>
        rw [if_pos rfl] at q ⊢
        refine ⟨fun σ H => ∃ G2 F2 env2, Ext G F G2 F2 ∧ Good S G2 F2 σ H env2 ∧ (mWhile t mb m env2).wp (PostS S G F D'), fun σ' H' h => ⟨m, Nat.lt_succ_self m, h⟩, G3, F3, env2, g3, M.wp_mono (M.wpb q) fun r q σ4 G4 F4 H4 e4 g4 => ?_⟩
        obtain ⟨f, env4⟩ := r
        cases f with
        | nx => exact ⟨G4, F4, env4, x2.trans (e3.trans e4), g4, q⟩
        | ct => exact ⟨G4, F4, env4, x2.trans (e3.trans e4), g4, q⟩
        | bk => exact q σ4 G4 F4 H4 (x2.trans (e3.trans e4)) g4
        | rt d => exact q σ4 G4 F4 H4 (x2.trans (e3.trans e4)) g4
/-! ### what is walked. imFor: by a for statement; imComp vs: within a comprehension whose own names stand at vs -/
structure IM where
  rd : SA → Hp → L2.St → DEnv → D → V → Prop
  P : Hp → L2.St → DEnv → Hp → L2.St → DEnv → Prop
  ok : DEnv → Bool
def notOwn (env : DEnv) (j : Nat) : Bool := match env[j]? with
  | some (some (.own _)) => false
  | some (some (.bor _)) => false
  | _ => true
def imFor : IM := ⟨fun S F _ _ d v => Rp S F d v, fun F' _ _ F2 _ _ => Sub F' F2, fun _ => true⟩
def imComp (vs : List Nat) : IM := ⟨RdB, fun F' σ env F2 σ2 env2 => Sub F' F2 ∧ ∀ j, j ∉ vs → σ2[j]? = σ[j]? ∧ env2[j]? = env[j]?, fun env => vs.all (notOwn env)⟩
structure IMOk (I : IM) : Prop where
  keep : ∀ {S : SA} {F' F2 : Hp} {σ σ2 : L2.St} {env env2 : DEnv} {d : D} {v : V}, I.ok env = true → I.P F' σ env F2 σ2 env2 → I.rd S F' σ env d v → I.rd S F2 σ2 env2 d v
  toB : ∀ {S : SA} {F : Hp} {σ : L2.St} {env : DEnv} {d : D} {v : V}, I.rd S F σ env d v → RdB S F σ env d v
theorem imForOk : IMOk imFor := ⟨fun _ s r => Rp.mono s r, fun r => .inl r⟩
theorem imCompOk (vs : List Nat) : IMOk (imComp vs) := ⟨fun {S F' F2 σ σ2 env env2 d v} ok s r => by
  rcases r with r | ⟨i, h1, h2⟩
  · exact .inl (r.mono s.1)
  · have ni : i ∉ vs := fun hm => by
      have := List.all_eq_true.mp ok i hm
      rcases h1 with h1 | h1 <;> simp [notOwn, h1] at this
    obtain ⟨q1, q2⟩ := s.2 i ni
    exact .inr ⟨i, h1.imp q2.trans q2.trans, q1.trans h2⟩, fun r => r⟩
def PostX (I : IM) (S : SA) (G F : Hp) (σ : L2.St) (env : DEnv) (Q : VK) (d : D) : Prop := ∀ v G' F' H', Ext G F G' F' → Good S G' F' σ H' env → I.rd S F' σ env d v → Q v H'
def TX_ (I : IM) (S : SA) (m : DE) : TE := fun σ H Q => ∃ G F env, Good S G F σ H env ∧ (m env).wp (PostX I S G F σ env Q)
def QX (I : IM) (S : SA) (X : Cx) (e : Expr) (m : DE) : Prop := PE X e (TX_ I S m)
theorem QE.xf (h : QE S X e m) : QX imFor S X e m := h
theorem QB.xc {vs : List Nat} (h : QB S X e m) : QX (imComp vs) S X e m := h
structure ItsD (S : SA) (J : It) (P : Hp → L2.St → DEnv → Prop) (ds : List D) : Prop where
  go : ∀ (i : Nat) G F σ H env, P F σ env → Good S G F σ H env → i < ds.length → J.go i H
  stop : ∀ (i : Nat) G F σ H env, P F σ env → Good S G F σ H env → ds.length ≤ i → J.stop i H
  yld : ∀ (i : Nat) G F σ H env x H' d, P F σ env → Good S G F σ H env → ds[i]? = some d → J.yld i H x H' → ∃ G' F', Ext G F G' F' ∧ Good S G' F' σ H' env ∧ Rp S F' d x
def TIx (I : IM) (S : SA) (m : DI) : TI := fun σ H R => ∃ G F env, Good S G F σ H env ∧ I.ok env = true ∧ (m env).wp fun ds => ∀ J G' F' H', Ext G F G' F' → Good S G' F' σ H' env → ItsD S J (I.P F' σ env) ds → ds.length ≤ sizeLine → R J H'
def QI (I : IM) (S : SA) (X : Cx) (tg e : Expr) (m : DI) : Prop := PI X tg e (TIx I S m)
/-! a list, a tuple, a text -/
theorem its_list {I : IM} (O : IMOk I) {K : PySem.W.Frag} {xs : List D} {a : Addr} (ok : I.ok env = true) (r : I.rd S F' σ env (.lst xs) (.ref a)) : ItsD S (Itl K a) (I.P F' σ env) xs where
  go := fun i G2 F2 σ2 H2 env2 hp g hi => by
    obtain ⟨p, vs, e, h1, l1, _⟩ := (O.toB (O.keep ok hp r)).lst g
    cases e
    have : i < vs.length := by rw [← l1.len]; exact hi
    exact ⟨vs, vs[i], .of h1, by simp [this]⟩
  stop := fun i G2 F2 σ2 H2 env2 hp g hi => by
    obtain ⟨p, vs, e, h1, l1, _⟩ := (O.toB (O.keep ok hp r)).lst g
    cases e
    exact ⟨vs, .of h1, by rw [← l1.len]; exact hi⟩
  yld := fun i G2 F2 σ2 H2 env2 x H3 d hp g hd y => by
    obtain ⟨p, vs, e, h1, l1, _⟩ := (O.toB (O.keep ok hp r)).lst g
    cases e
    obtain ⟨e, y⟩ := y
    subst e
    obtain ⟨v, hv, rv⟩ := l1.get hd
    have e2 := y vs (.of h1)
    rw [hv] at e2
    cases e2
    exact ⟨G2, F2, Ext.refl _ _, g, rv⟩
theorem its_tup {I : IM} (O : IMOk I) {K : PySem.W.Frag} {xs : List D} {a : Addr} (ok : I.ok env = true) (r : I.rd S F' σ env (.tup xs) (.ref a)) : ItsD S (Itt K a) (I.P F' σ env) xs where
  go := fun i G2 F2 σ2 H2 env2 hp g hi => by
    obtain ⟨p, vs, e, f1, h1, l1, _⟩ := (O.toB (O.keep ok hp r)).tup g
    cases e
    have : i < vs.length := by rw [← l1.len]; exact hi
    exact ⟨vs, vs[i], .of h1, by simp [this]⟩
  stop := fun i G2 F2 σ2 H2 env2 hp g hi => by
    obtain ⟨p, vs, e, f1, h1, l1, _⟩ := (O.toB (O.keep ok hp r)).tup g
    cases e
    exact ⟨vs, .of h1, by rw [← l1.len]; exact hi⟩
  yld := fun i G2 F2 σ2 H2 env2 x H3 d hp g hd y => by
    obtain ⟨p, vs, e, f1, h1, l1, _⟩ := (O.toB (O.keep ok hp r)).tup g
    cases e
    obtain ⟨e, y⟩ := y
    subst e
    obtain ⟨v, hv, rv⟩ := l1.get hd
    have e2 := y vs (.of h1)
    rw [hv] at e2
    cases e2
    exact ⟨G2, F2, Ext.refl _ _, g, rv⟩
def signs (x : Str) : List D := x.cps.toList.map fun c => D.str ⟨#[c]⟩
theorem its_str {P : Hp → L2.St → DEnv → Prop} {x : Str} (ok : PyData.strOk x = true) : ItsD S (L2.Its x) P (signs x) where
  go := fun i G2 F2 σ2 H2 env2 hp g hi => by
    unfold signs at hi
    rw [List.length_map, Array.length_toList] at hi
    exact hi
  stop := fun i G2 F2 σ2 H2 env2 hp g hi => by
    unfold signs at hi
    rw [List.length_map, Array.length_toList] at hi
    exact hi
  yld := fun i G2 F2 σ2 H2 env2 v H3 d hp g hd y => by
    obtain ⟨e, c, hc, ev⟩ := y
    subst e ev
    unfold signs at hd
    rw [List.getElem?_map, Array.getElem?_toList, hc] at hd
    cases hd
    refine ⟨G2, F2, Ext.refl _ _, g, .str _ ?_ (by show 1 ≤ sizeLine; decide)⟩
    unfold PyData.strOk at ok ⊢
    rw [Array.all_eq_true_iff_forall_mem] at ok
    have hm : c ∈ x.cps := Array.mem_of_getElem? hc
    simpa using ok c hm
/-- a list, a tuple or a text, as it comes -/
def iAny (K : PySem.W.Frag) (tl : TE) : TI := fun σ H R => tl σ H fun x H1 => (∃ a, x = .ref a ∧ (∃ xs, SqL K H1 a xs) ∧ R (Itl K a) H1) ∨ (∃ a, x = .ref a ∧ (∃ xs, SqT K H1 a xs) ∧ R (Itt K a) H1) ∨ ∃ y, x = .str y ∧ R (L2.Its y) H1
theorem pi_any {tg l : Expr} {tl : TE} (hl : PE X l tl) : PI X tg l (iAny X.K tl) := by
  refine ⟨fun pins s σ H R I h => ?_⟩
  refine thn (hl.run pins s σ H _ I h) fun v s1 ⟨x, H1, I1, r1, q1⟩ => ?_
  rcases q1 with q1 | q1 | q1
  · obtain ⟨a, e, ⟨xs, hq⟩, q⟩ := q1
    subst e
    cases r1
    obtain ⟨its, rv, p, hz⟩ := I1.list hq
    refine wpAny_pyIter_list p.isList ?_
    refine ⟨s1.heap.objs.size, [s1.heap.objs.size], _, _, H1, rfl, I1.kept (t' := s1.toks) fun b o e => Heap.get?_push_of_some _ e, turn_list a _, ⟨_, Heap.get?_push_size _ rfl, rfl, rfl⟩, fun b hb => ?_, q⟩
    have e : b = s1.heap.objs.size := by simpa using hb
    subst e
    exact I1.fpOk (Nat.le_refl _) (I1.hok.fresh (Nat.le_refl _))
  · obtain ⟨a, e, ⟨xs, hq⟩, q⟩ := q1
    subst e
    cases r1
    obtain ⟨its, rv, p, hz⟩ := I1.tuple hq
    refine wpAny_pyIter_tuple (show s1.heap.IsTuple a its.toArray from p) ?_
    refine ⟨s1.heap.objs.size, [s1.heap.objs.size], _, _, H1, rfl, I1.kept (t' := s1.toks) fun b o e => Heap.get?_push_of_some _ e, turn_tuple a _, ⟨_, Heap.get?_push_size _ rfl, rfl, rfl⟩, fun b hb => ?_, q⟩
    have e : b = s1.heap.objs.size := by simpa using hb
    subst e
    exact I1.fpOk (Nat.le_refl _) (I1.hok.fresh (Nat.le_refl _))
  · obtain ⟨x, e, q⟩ := q1
    subst e
    obtain ⟨t, rfl⟩ := r1
    cases ha : x.cps.all (· < 128)
    · exact wpAny_pyIter_wide ha (pi_one (tk := s1.toks) I1 _ (turn_str _ x t "str_iterator" (.inr rfl)) ⟨_, Heap.get?_push_size _ rfl, rfl, rfl⟩ q)
    · exact wpAny_pyIter_ascii ha (pi_one (tk := s1.toks) I1 _ (turn_str _ x t "str_ascii_iterator" (.inl rfl)) ⟨_, Heap.get?_push_size _ rfl, rfl, rfl⟩ q)
def itemsM : D → M (List D)
  | .lst xs => .ret xs
  | .tup xs => .ret xs
  | .str x => .ret (signs x)
  | _ => .fail
def iOver (m : DE) : DI := fun env => m env >>= itemsM
theorem qi_any {I : IM} (O : IMOk I) {tg l : Expr} (hl : QX I S X l m) : QI I S X tg l (iOver m) :=
  pi_weak (pi_any hl) fun σ H R ⟨G, F, env, g, ok, q⟩ => ⟨G, F, env, g, M.wp_mono (M.wpb q) fun d q v G1 F1 H1 e1 g1 r1 => by
    cases d with
    | lst xs =>
      obtain ⟨p, vs, rfl, h1, l1, z1⟩ := (O.toB r1).lst g1
      exact .inl ⟨p, rfl, ⟨vs, .of h1⟩, q _ G1 F1 H1 e1 g1 (its_list O ok r1) (by rw [l1.len]; exact z1)⟩
    | tup xs =>
      obtain ⟨p, vs, rfl, f1, h1, l1, z1⟩ := (O.toB r1).tup g1
      exact .inr (.inl ⟨p, rfl, ⟨vs, .of h1⟩, q _ G1 F1 H1 e1 g1 (its_tup O ok r1) (by rw [l1.len]; exact z1)⟩)
    | str x =>
      obtain ⟨rfl, ok', z⟩ := (O.toB r1).str g1
      exact .inr (.inr ⟨x, rfl, q _ G1 F1 H1 e1 g1 (its_str ok') (by unfold signs; rw [List.length_map, Array.length_toList]; exact z)⟩)
    | _ => exact q.elim⟩
/-! range -/
theorem its_rng {P : Hp → L2.St → DEnv → Prop} {a b : Int} : ItsD S (Itr a (b - a).toNat) P (rgD a b) where
  go := fun i G2 F2 σ2 H2 env2 hp g hi => by
    unfold rgD at hi
    rw [List.length_map, List.length_range] at hi
    exact hi
  stop := fun i G2 F2 σ2 H2 env2 hp g hi => by
    unfold rgD at hi
    rw [List.length_map, List.length_range] at hi
    exact hi
  yld := fun i G2 F2 σ2 H2 env2 v H3 d hp g hd y => by
    obtain ⟨e, ev⟩ := y
    subst e ev
    unfold rgD at hd
    rw [List.getElem?_map] at hd
    cases hr : (List.range (b - a).toNat)[i]? with
    | none => rw [hr] at hd; cases hd
    | some j =>
      rw [hr] at hd
      obtain ⟨hl, e⟩ := List.getElem?_eq_some_iff.mp hr
      rw [List.getElem_range] at e
      subst e
      cases hd
      exact ⟨G2, F2, Ext.refl _ _, g, .int _⟩
theorem rgD_le {a b : Int} (h : (b - a).toNat ≤ 2 ^ 24) : (rgD a b).length ≤ sizeLine := by
  unfold rgD
  rw [List.length_map, List.length_range, sizeLine_eq]
  exact h
def iRg1 (m : DE) : DI := fun env => m env >>= fun x => asI x >>= fun j => if rgOk 0 j then .ret (rgD 0 j) else .fail
def iRg2 (ma mb : DE) : DI := fun env => ma env >>= fun x => mb env >>= fun y => asI x >>= fun i => asI y >>= fun j => if rgOk i j then .ret (rgD i j) else .fail
theorem qi_rg1 {I : IM} {tg : Expr} (hg : Gl X "range") (hm : X.mg "range" = none) (ha : QB S X a m) (n1 : starEach [a] X.env = (false, eval a X.env) :: starEach [] X.env := by rfl) (hs : starEach [a] X.env = [(false, eval a X.env)] := by rfl) : QI I S X tg (.Call (.Name "range" pp) [a] [] pos) (iRg1 m) :=
  pi_weak (pi_range1 hg hm (pa_cons ha pa_nil n1) hs) fun σ H R ⟨G, F, env, g, ok, q⟩ => ⟨G, F, env, g, M.wp_mono (M.wpb q) fun d q v G1 F1 H1 e1 g1 r1 => by
    obtain ⟨j, ej, q2⟩ := asI_wp (M.wpb q)
    subst ej
    obtain rfl := r1.int g1
    split at q2
    · have ok2 := rgOk_iff (by assumption)
      obtain ⟨_, _, b1, b2, b5⟩ := ok2
      refine ⟨j, rfl, b1, b2, q2 _ G1 F1 H1 e1 g1 ?_ (rgD_le b5)⟩
      have := its_rng (S := S) (P := I.P F1 σ env) (a := 0) (b := j)
      rw [Int.sub_zero] at this
      exact this
    · exact q2.elim⟩
theorem qi_rg2 {I : IM} {tg : Expr} (hg : Gl X "range") (hm : X.mg "range" = none) (ha : QB S X a ma) (hb : QB S X b mb) (n1 : starEach [a, b] X.env = (false, eval a X.env) :: starEach [b] X.env := by rfl) (n2 : starEach [b] X.env = (false, eval b X.env) :: starEach [] X.env := by rfl)
    (hs : starEach [a, b] X.env = [(false, eval a X.env), (false, eval b X.env)] := by rfl) (hs2 : starEach [b] X.env = [(false, eval b X.env)] := by rfl) : QI I S X tg (.Call (.Name "range" pp) [a, b] [] pos) (iRg2 ma mb) :=
  pi_weak (pi_range2 hg hm (pa_cons ha (pa_cons hb pa_nil n2) n1) hs hs2) fun σ H R ⟨G, F, env, g, ok, q⟩ => ⟨G, F, env, g, M.wp_mono (M.wpb q) fun d q v G1 F1 H1 e1 g1 r1 => ⟨G1, F1, env, g1, M.wp_mono (M.wpb q) fun d2 q v2 G2 F2 H2 e2 g2 r2 => by
    obtain ⟨i, ei, q1⟩ := asI_wp (M.wpb q)
    obtain ⟨j, ej, q2⟩ := asI_wp (M.wpb q1)
    subst ei ej
    obtain rfl := r1.int g1
    obtain rfl := r2.int g2
    split at q2
    · have ok2 := rgOk_iff (by assumption)
      obtain ⟨b1, b2, b3, b4, b5⟩ := ok2
      exact ⟨i, j, rfl, ⟨b1, b2, b3, b4⟩, q2 _ G2 F2 H2 (e1.trans e2) g2 its_rng (rgD_le b5)⟩
    · exact q2.elim⟩⟩
/-! enumerate(list) -/
def enumD : Nat → List D → List D
  | _, [] => []
  | i, d :: ds => .tup [.int (i : Int), d] :: enumD (i + 1) ds
theorem enumD_len : ∀ (k : Nat) (ds : List D), (enumD k ds).length = ds.length
  | _, [] => rfl
  | k, d :: ds => congrArg (· + 1) (enumD_len (k + 1) ds)
theorem enumD_get : ∀ (k : Nat) (ds : List D) (i : Nat) (x : D), (enumD k ds)[i]? = some x → ∃ d, ds[i]? = some d ∧ x = .tup [.int ((k + i : Nat) : Int), d]
  | _, [], i, x, h => by simp [enumD] at h
  | k, d :: ds, 0, x, h => by simp [enumD] at h; exact ⟨d, rfl, h.symm⟩
  | k, d :: ds, i + 1, x, h => by
    obtain ⟨e, h1, h2⟩ := enumD_get (k + 1) ds i x (by simpa [enumD] using h)
    exact ⟨e, by simpa using h1, by rw [h2, show k + 1 + i = k + (i + 1) by omega]⟩
theorem its_enum {I : IM} (O : IMOk I) {K : PySem.W.Frag} {xs : List D} {a : Addr} (ok : I.ok env = true) (r : I.rd S F' σ env (.lst xs) (.ref a)) : ItsD S (Ite K a) (I.P F' σ env) (enumD 0 xs) where
  go := fun i G2 F2 σ2 H2 env2 hp g hi => by
    obtain ⟨p, vs, e, h1, l1, _⟩ := (O.toB (O.keep ok hp r)).lst g
    cases e
    have : i < vs.length := by rw [← l1.len]; rw [enumD_len] at hi; exact hi
    exact ⟨vs, vs[i], .of h1, by simp [this]⟩
  stop := fun i G2 F2 σ2 H2 env2 hp g hi => by
    obtain ⟨p, vs, e, h1, l1, _⟩ := (O.toB (O.keep ok hp r)).lst g
    cases e
    exact ⟨vs, .of h1, by rw [← l1.len]; rw [enumD_len] at hi; exact hi⟩
  yld := fun i G2 F2 σ2 H2 env2 x H3 d hp g hd y => by
    obtain ⟨p, vs, e, h1, l1, _⟩ := (O.toB (O.keep ok hp r)).lst g
    cases e
    obtain ⟨T, y, rfl, nT, rfl, fy⟩ := y
    obtain ⟨d', hd', rfl⟩ := enumD_get 0 xs i d hd
    obtain ⟨v, hv, rv⟩ := l1.get hd'
    have e2 := fy vs (.of h1)
    rw [hv] at e2
    cases e2
    obtain ⟨x3, g3⟩ := g.newFrz nT (.tup [.int (i : Nat), y])
    refine ⟨_, _, x3, g3, .tup upd_same (.cons ?_ (.cons (rv.mono x3.f) .nil)) (by show 2 ≤ sizeLine; decide)⟩
    rw [Nat.zero_add]
    exact .int _
def iEnumD (m : DE) : DI := fun env => m env >>= fun x => match x with
  | .lst xs => .ret (enumD 0 xs)
  | _ => .fail
theorem qi_enum {I : IM} (O : IMOk I) {tpos : Pos} {elts : List Expr} {kk : Nat} (hg : Gl X "enumerate") (hm : X.mg "enumerate" = none) (ha : QX I S X a m) (n1 : starEach [a] X.env = (false, eval a X.env) :: starEach [] X.env := by rfl) (hs : starEach [a] X.env = [(false, eval a X.env)] := by rfl) :
    QI I S X (.Tuple elts kk tpos) (.Call (.Name "enumerate" pp) [a] [] pos) (iEnumD m) :=
  pi_weak (pi_enum hg hm (pa_cons ha pa_nil n1) hs) fun σ H R ⟨G, F, env, g, ok, q⟩ => ⟨G, F, env, g, M.wp_mono (M.wpb q) fun d q v G1 F1 H1 e1 g1 r1 => by
    cases d with
    | lst xs =>
      obtain ⟨p, vs, rfl, h1, l1, z1⟩ := (O.toB r1).lst g1
      exact ⟨p, vs, rfl, .of h1, q _ G1 F1 H1 e1 g1 (its_enum O ok r1) (by rw [enumD_len, l1.len]; exact z1)⟩
    | _ => exact q.elim⟩
/-! ### for -/
def mForL (gg : DG) (mb : DS) : List D → DS
  | [] => fun env => .ret (.nx, env)
  | d :: ds => fun env => gg d env >>= fun env1 => mb env1 >>= fun r => match r.1 with
    | .nx => mForL gg mb ds r.2
    | .ct => mForL gg mb ds r.2
    | .bk => .ret (.nx, r.2)
    | .rt d => .ret (.rt d, r.2)
def mFor (mi : DI) (gg : DG) (mb : DS) : DS := fun env => mi env >>= fun ds => mForL gg mb ds env
theorem qfor (ws : List Nat) {tg iter : Expr} {body : List Stmt} {mi : DI} {gg : DG} {mb : DS} (hi : QI imFor S X tg iter mi) (hg : QG S ws X tg gg) (hb : QSs S X body mb) (hp : PassesOwn (model X.prog X.w) X.A X.env X.xe := by exact PassesOwn.never) (hc : X.calm = true := by rfl)
    (hs : ∀ x, foldedSetIterable iter X.env x = pure x := by intro _; rfl) : QS S X (.For tg iter body [] pos) (mFor mi gg mb) :=
  ps_weak (ps_for hp hc hi hg hb hs) fun D' σ H ⟨G, F, env, g, q⟩ => ⟨G, F, env, g, rfl, M.wp_mono (M.wpb q) fun ds q J G1 F1 H1 e1 g1 its _ => by
    refine ⟨fun i m σ H => m = ds.length - i ∧ i ≤ ds.length ∧ ∃ G2 F2 env2, Ext G F G2 F2 ∧ Sub F1 F2 ∧ Good S G2 F2 σ H env2 ∧ (mForL gg mb (ds.drop i) env2).wp (PostS S G F D'), ⟨ds.length, by simp, Nat.zero_le _, G1, F1, env, e1, Sub.refl _, g1, by simpa using q⟩, ?_⟩
    rintro i m σ H ⟨rfl, hi, G2, F2, env2, x2, s2, g2, q⟩
    by_cases hlt : i < ds.length
    · refine .inr ⟨its.go i G2 F2 σ H env2 s2 g2 hlt, fun σ H => ∃ G2 F2 env2, Ext G F G2 F2 ∧ Sub F1 F2 ∧ Good S G2 F2 σ H env2 ∧ (mForL gg mb (ds.drop (i + 1)) env2).wp (PostS S G F D'),
        fun σ' H' h => ⟨ds.length - (i + 1), by omega, rfl, hlt, h⟩, fun x H' y => ?_⟩
      obtain ⟨G3, F3, e3, g3, r3⟩ := its.yld i G2 F2 σ H env2 x H' ds[i] s2 g2 (by simp [hlt]) y
      rw [List.drop_eq_getElem_cons hlt] at q
      refine ⟨G3, F3, env2, ds[i], g3, r3, M.wp_mono (M.wpb q) fun env3 q σ3 _ g3' => ⟨G3, F3, env3, g3', M.wp_mono (M.wpb q) fun r q σ4 G4 F4 H4 e4 g4 => ?_⟩⟩
      have xx := x2.trans (e3.trans e4)
      obtain ⟨f, env4⟩ := r
      cases f with
      | nx => exact ⟨G4, F4, env4, xx, s2.trans (e3.f.trans e4.f), g4, q⟩
      | ct => exact ⟨G4, F4, env4, xx, s2.trans (e3.f.trans e4.f), g4, q⟩
      | bk => exact q σ4 G4 F4 H4 xx g4
      | rt d => exact q σ4 G4 F4 H4 xx g4
    · have e : i = ds.length := by omega
      subst e
      rw [List.drop_length] at q
      exact .inl ⟨its.stop _ G2 F2 σ H env2 s2 g2 (Nat.le_refl _), q σ G2 F2 H x2 g2⟩⟩
end
end DL

set_option Elab.async false
set_option linter.all false
set_option maxRecDepth 100000
/-! DL7: comprehensions, methods of lists, calls of the text's own defs, a def by its body. -/
namespace DL
open PySem PySem.Spec L2
open PyProof.Rows hiding St

section
variable {S : SA} {X : Cx} {G F G' F' H H' : Hp} {σ : L2.St} {env : DEnv} {d : D} {v : V} {p : Addr} {Q : VK} {m ma mb mc : DE} {t ta tb : DT} {ms : DA} {a b c e : Expr} {es rest : List Expr} {pos pp : Pos} {x : Str} {i : Nat}
theorem wipeE_out : ∀ {vs : List Nat} {env : DEnv} {i : Nat}, i ∉ vs → (wipeE env vs)[i]? = env[i]?
  | [], _, _, _ => rfl
  | v :: vs, env, i, h => by
    have h1 : v ≠ i := fun e => h (by rw [e]; exact List.mem_cons_self)
    have h2 : i ∉ vs := fun m => h (List.mem_cons_of_mem _ m)
    unfold wipeE
    rw [List.getElem?_set_ne h1]
    exact wipeE_out h2
theorem wipeE_in : ∀ {vs : List Nat} {env : DEnv} {i : Nat} {sl : Sl}, i ∈ vs → (wipeE env vs)[i]? ≠ some (some sl)
  | v :: vs, env, i, sl, h => fun z => by
    unfold wipeE at z
    by_cases h1 : v = i
    · subst h1
      by_cases hv : v < (wipeE env vs).length
      · rw [List.getElem?_set_self hv] at z; cases z
      · rw [List.getElem?_eq_none (by simpa using hv)] at z; cases z
    · rw [List.getElem?_set_ne h1] at z
      rcases List.mem_cons.mp h with e | e
      · exact h1 e.symm
      · exact wipeE_in e z
theorem wipeE_len (env : DEnv) : ∀ vs : List Nat, (wipeE env vs).length = env.length
  | [] => rfl
  | v :: vs => by unfold wipeE; rw [List.length_set, wipeE_len env vs]
theorem wipe_comm1 (σ : L2.St) (v : Nat) : ∀ vs : List Nat, wipe (σ.set v none) vs = (wipe σ vs).set v none
  | [] => rfl
  | u :: us => by
    unfold wipe
    rw [wipe_comm1 σ v us]
    by_cases h : v = u
    · subst h; rfl
    · rw [List.set_comm _ _ h]
theorem wipe_idem (σ : L2.St) : ∀ vs : List Nat, wipe (wipe σ vs) vs = wipe σ vs
  | [] => rfl
  | v :: vs => by
    show (wipe ((wipe σ vs).set v none) vs).set v none = (wipe σ vs).set v none
    rw [wipe_comm1, wipe_idem σ vs, List.set_set]
theorem wipeE_comm1 (σ : DEnv) (v : Nat) : ∀ vs : List Nat, wipeE (σ.set v none) vs = (wipeE σ vs).set v none
  | [] => rfl
  | u :: us => by
    unfold wipeE
    rw [wipeE_comm1 σ v us]
    by_cases h : v = u
    · subst h; rfl
    · rw [List.set_comm _ _ h]
theorem wipeE_idem (σ : DEnv) : ∀ vs : List Nat, wipeE (wipeE σ vs) vs = wipeE σ vs
  | [] => rfl
  | v :: vs => by
    show (wipeE ((wipeE σ vs).set v none) vs).set v none = (wipeE σ vs).set v none
    rw [wipeE_comm1, wipeE_idem σ vs, List.set_set]
theorem Good.wiped (g : Good S G F σ H env) (vs : List Nat) : Good S G F (wipe σ vs) H (wipeE env vs) := by
  have sl' : ∀ (i : Nat) (sl : Sl), (wipeE env vs)[i]? = some (some sl) → env[i]? = some (some sl) ∧ (wipe σ vs)[i]? = σ[i]? := fun i sl e => by
    have hi : i ∉ vs := fun hm => wipeE_in hm e
    rw [wipeE_out hi] at e
    exact ⟨e, wipe_out hi⟩
  refine ⟨g.kp, g.fg, g.st, g.ns, g.nc, by rw [wipe_length, wipeE_len]; exact g.len, fun i sl e => ?_, fun j k dj dk a e1 e2 e3 e4 => ?_⟩
  · obtain ⟨e1, e2⟩ := sl' i sl e
    have q := g.slot i sl e1
    cases sl with
    | val d => obtain ⟨u, h1, h2⟩ := q; exact ⟨u, e2.trans h1, h2⟩
    | bor d => obtain ⟨u, h1, h2⟩ := q; exact ⟨u, e2.trans h1, h2⟩
    | own d => obtain ⟨u, h1, h2⟩ := q; exact ⟨u, e2.trans h1, h2⟩
  · obtain ⟨f1, f2⟩ := sl' j _ e1
    obtain ⟨f3, f4⟩ := sl' k _ e2
    exact g.dist j k dj dk a f1 f3 (f2.symm.trans e3) (f4.symm.trans e4)
/-- back from a block: the names as they stood -/
theorem Good.back {σ1 : L2.St} {env1 : DEnv} {G1 F1 : Hp} {H1 : Hp} {vs : List Nat} (g : Good S G F σ H env) (ok : vs.all (notOwn env) = true) (o : Only vs (wipe σ vs) (wipeE env vs) σ1 env1) (s : Sub F F1) (g1 : Good S G1 F1 σ1 H1 env1) : Good S G1 F1 σ H1 env := by
  have hs : ∀ j, j ∉ vs → σ1[j]? = σ[j]? ∧ env1[j]? = env[j]? := fun j hj => by
    have e1 : (wipe σ1 vs)[j]? = (wipe (wipe σ vs) vs)[j]? := by rw [o.1]
    have e2 : (wipeE env1 vs)[j]? = (wipeE (wipeE env vs) vs)[j]? := by rw [o.2]
    rw [wipe_out hj, wipe_out hj, wipe_out hj] at e1
    rw [wipeE_out hj, wipeE_out hj, wipeE_out hj] at e2
    exact ⟨e1, e2⟩
  have hv : ∀ (i : Nat) (di : D), env[i]? = some (some (.own di)) → i ∉ vs := fun i di e hm => by
    have := List.all_eq_true.mp ok i hm
    simp [notOwn, e] at this
  refine ⟨g1.kp, g1.fg, g1.st, g1.ns, g1.nc, g.len, fun i sl e => ?_, g.dist⟩
  cases sl with
  | val d => obtain ⟨u, h1, h2⟩ := g.slot i _ e; exact ⟨u, h1, h2.mono s⟩
  | bor d =>
    have hi : i ∉ vs := fun hm => by
      have := List.all_eq_true.mp ok i hm
      simp [notOwn, e] at this
    obtain ⟨q1, q2⟩ := hs i hi
    obtain ⟨u, h1, h2⟩ := g1.slot i _ (q2.trans e)
    exact ⟨u, q1.symm.trans h1, h2⟩
  | own d =>
    have hi := hv i d e
    obtain ⟨q1, q2⟩ := hs i hi
    obtain ⟨u, h1, h2⟩ := g1.slot i _ (q2.trans e)
    exact ⟨u, q1.symm.trans h1, h2⟩
def delH (G : Hp) (p : Addr) : Hp := fun a => if a = p then none else G a
/-- no name that is looked at holds p -/
def NoBor (σ : L2.St) (env : DEnv) (p : Addr) : Prop := ∀ (i : Nat) (di : D), env[i]? = some (some (.bor di)) → σ[i]? ≠ some (some (.ref p))
theorem Good.chg {o o' : HO} (g : Good S G F σ H env) (hp : G p = some o) (hf : F p = none) (hb : NoBor σ env p) : Good S (delH G p) F σ (upd H p o') env := by
  have ns : S.sa ≠ p := fun z => by rw [← z, g.ns] at hp; cases hp
  have nc : S.ca ≠ p := fun z => by rw [← z, g.nc] at hp; cases hp
  refine ⟨fun a u e => ?_, fun a u e => ?_, ⟨g.st.1, ?_⟩, ?_, ?_, g.len, fun i sl e => ?_, g.dist⟩
  · unfold delH at e
    split at e
    · cases e
    · rename_i na; rw [upd_ne na]; exact g.kp a u e
  · have na : a ≠ p := fun z => by rw [z, hf] at e; cases e
    unfold delH
    rw [if_neg na]; exact g.fg a u e
  · obtain ⟨_, n, cs, h1, h2, h3⟩ := g.st
    exact ⟨n, cs, by rw [upd_ne ns]; exact h1, by rw [upd_ne nc]; exact h2, h3⟩
  · unfold delH; rw [if_neg ns]; exact g.ns
  · unfold delH; rw [if_neg nc]; exact g.nc
  · have q := g.slot i sl e
    cases sl with
    | val d => exact q
    | bor d =>
      obtain ⟨u, h1, h2⟩ := q
      refine ⟨u, h1, ?_⟩
      rcases h2 with h2 | ⟨a, ea, h2⟩
      · exact .inl h2
      · subst ea
        have na : a ≠ p := fun z => hb i d e (by rw [h1, z])
        exact .inr ⟨a, rfl, ownR_mono (Sub.refl _) (fun o z => by unfold delH; rw [if_neg na]; exact z) h2⟩
    | own d =>
      obtain ⟨a, h1, h2, h3, h4, h5⟩ := q
      have na : a ≠ p := fun z => by rw [z, hp] at h2; cases h2
      refine ⟨a, h1, ?_, h3, h4, ownR_mono (Sub.refl _) (fun o z => by rw [upd_ne na]; exact z) h5⟩
      unfold delH; rw [if_neg na]; exact h2

/-! ### comprehensions -/
def QTs (S : SA) (X : Cx) (ifs : List Expr) (m : DT) : Prop := PTs X ifs (TT_ S m)
theorem pts_weak {ifs : List Expr} {t t' : TT} (h : PTs X ifs t) (w : ∀ σ H Q, t' σ H Q → t σ H Q) : PTs X ifs t' := ⟨fun pins s σ H Q I q => h.run pins s σ H Q I (w σ H Q q)⟩
def mYes : DT := fun _ => .ret true
theorem qts_nil : QTs S X [] mYes := pts_weak pts_nil fun σ H Q ⟨G, F, env, g, q⟩ => q G F H (Ext.refl _ _) g
theorem qts_one (h : QT S X c t) : QTs S X [c] t := pts_one h
def mLcL (gg : DG) (mt : DT) (me : DE) (envw : DEnv) : List D → List D → M (List D)
  | [], acc => .ret acc
  | d :: ds, acc => gg d envw >>= fun env1 => mt env1 >>= fun k => if k then me env1 >>= fun y => mLcL gg mt me envw ds (acc ++ [y]) else mLcL gg mt me envw ds acc
def mLc (vs : List Nat) (mi : DI) (gg : DG) (mt : DT) (me : DE) : DE := fun env => if vs.all (notOwn env) then mi env >>= fun ds => mLcL gg mt me (wipeE env vs) ds [] >>= fun ys => .ret (.lst ys) else .fail
/-- what is known of the list that grows at p -/
structure Grow (S : SA) (G1 F1 : Hp) (σ : L2.St) (env : DEnv) (p : Addr) (H : Hp) (acc : List D) (n : Nat) (G2 F2 : Hp) : Prop where
  x : Ext G1 F1 G2 F2
  g : Good S G2 F2 σ H env
  no : G2 p = none
  ows : ∀ (i : Nat) (di : D), env[i]? = some (some (.own di)) → σ[i]? ≠ some (some (.ref p))
  at_ : ∃ vs, H p = some (.lst vs) ∧ RpL S F2 acc vs ∧ vs.length ≤ n
  bos : NoBor σ env p
theorem Good.borNe (g : Good S G F σ H env) (hp : H p = none) : NoBor σ env p := fun i di e z => by
  obtain ⟨u, h1, h2⟩ := g.slot i _ e
  rw [z] at h1
  cases h1
  have hg := g.no hp
  have hf := g.fg.no hg
  rcases h2 with h2 | ⟨a, ea, h2⟩
  · cases h2 with
    | stt => obtain ⟨_, n, cs, q1, _⟩ := g.st; rw [q1] at hp; cases hp
    | tup h _ _ => rw [hf] at h; cases h
    | lst h _ _ => rw [hf] at h; cases h
    | dctK h _ _ => rw [hf] at h; cases h
    | dctT h _ _ => rw [hf] at h; cases h
    | dcn h _ _ => rw [hf] at h; cases h
  · cases ea
    obtain ⟨o, ho⟩ := ownR_some h2
    rw [hg] at ho; cases ho
theorem NoBor.wiped (h : NoBor σ env p) (vs : List Nat) : NoBor (wipe σ vs) (wipeE env vs) p := fun i di e z => by
  have hi : i ∉ vs := fun hm => wipeE_in hm e
  rw [wipeE_out hi] at e
  rw [wipe_out hi] at z
  exact h i di e z
theorem Grow.start {G1 F1 H1 : Hp} (g : Good S G1 F1 σ H1 env) (hp : H1 p = none) : Grow S G1 F1 σ env p (upd H1 p (.lst [])) [] 0 G1 F1 :=
  ⟨Ext.refl _ _, g.new hp _, g.no hp, g.ownNe hp, ⟨[], upd_same, .nil, Nat.le_refl _⟩, g.borNe hp⟩
/-- the block's state at a turn: the list is kept -/
theorem Grow.blk {G1 F1 : Hp} {acc : List D} {n : Nat} {G2 F2 : Hp} (w : Grow S G1 F1 σ env p H acc n G2 F2) (vs : List Nat) (n1 : p ≠ S.sa) (n2 : p ≠ S.ca) : ∃ o, H p = some o ∧ Ext G2 F2 (upd G2 p o) F2 ∧ Good S (upd G2 p o) F2 (wipe σ vs) H (wipeE env vs) := by
  obtain ⟨us, h1, _⟩ := w.at_
  refine ⟨_, h1, ⟨sub_upd w.no, Sub.refl _, fun a h _ => h⟩, ?_⟩
  have g := w.g.wiped vs
  refine ⟨fun a u e => ?_, w.g.fg.trans (sub_upd w.no), g.st, ?_, ?_, g.len, fun i sl e => ?_, g.dist⟩
  · by_cases z : a = p
    · subst z; rw [upd_same] at e; cases e; exact h1
    · rw [upd_ne z] at e; exact g.kp a u e
  · rw [upd_ne n1.symm]; exact g.ns
  · rw [upd_ne n2.symm]; exact g.nc
  · have q := g.slot i sl e
    cases sl with
    | val d => exact q
    | bor d => obtain ⟨u, q1, q2⟩ := q; exact ⟨u, q1, q2.mono (sub_upd w.no) (Sub.refl _)⟩
    | own d =>
      obtain ⟨a, q1, q2, q3⟩ := q
      have hi : i ∉ vs := fun hm => wipeE_in hm e
      have na : a ≠ p := fun z => by
        rw [wipeE_out hi] at e
        rw [wipe_out hi] at q1
        exact w.ows i d e (by rw [q1, z])
      exact ⟨a, q1, by rw [upd_ne na]; exact q2, q3⟩
/-- behind a turn: the list stands (k: a new item) -/
theorem Grow.next {G1 F1 : Hp} {acc : List D} {n : Nat} {G2 F2 G3 F3 H3 : Hp} {σ3 : L2.St} {env3 : DEnv} {o : HO} {vs : List Nat} (w : Grow S G1 F1 σ env p H acc n G2 F2) (ho : H p = some o) (ok : vs.all (notOwn env) = true)
    (x : Ext (upd G2 p o) F2 G3 F3) (on : Only vs (wipe σ vs) (wipeE env vs) σ3 env3) (g3 : Good S G3 F3 σ3 H3 env3) {y : D} {u : V} (r : Rp S F3 y u) :
    ∃ us, H3 p = some (.lst us) ∧ us.length ≤ n ∧ Grow S G1 F1 σ env p (upd H3 p (.lst (us ++ [u]))) (acc ++ [y]) (n + 1) (delH G3 p) F3 := by
  obtain ⟨us, h1, h2, h3⟩ := w.at_
  rw [h1] at ho
  cases ho
  have k3 : G3 p = some (.lst us) := x.g _ _ upd_same
  have f2 : F2 p = none := w.g.fg.no w.no
  have f3 : F3 p = none := x.n p f2 (by rw [upd_same]; simp)
  have gb := w.g.back ok on x.f g3
  refine ⟨us, g3.kp _ _ k3, h3, ⟨w.x.trans ⟨fun a u' e => ?_, x.f, fun a e1 e2 => ?_⟩, gb.chg k3 f3 w.bos, ?_, w.ows, ⟨us ++ [u], upd_same, (h2.mono x.f).append (.cons r .nil), ?_⟩, w.bos⟩⟩
  · have na : a ≠ p := fun z => by rw [z, w.no] at e; cases e
    unfold delH
    rw [if_neg na]
    exact x.g a u' (by rw [upd_ne na]; exact e)
  · exact x.n a e1 (by
      have na : a ≠ p := fun z => e2 (by rw [z]; exact w.no)
      rw [upd_ne na]; exact e2)
  · unfold delH; rw [if_pos rfl]
  · rw [List.length_append, List.length_singleton]; omega
theorem Grow.skip {G1 F1 : Hp} {acc : List D} {n : Nat} {G2 F2 G3 F3 H3 : Hp} {σ3 : L2.St} {env3 : DEnv} {o : HO} {vs : List Nat} (w : Grow S G1 F1 σ env p H acc n G2 F2) (ho : H p = some o) (ok : vs.all (notOwn env) = true)
    (x : Ext (upd G2 p o) F2 G3 F3) (on : Only vs (wipe σ vs) (wipeE env vs) σ3 env3) (g3 : Good S G3 F3 σ3 H3 env3) : Grow S G1 F1 σ env p H3 acc (n + 1) (delH G3 p) F3 := by
  obtain ⟨us, h1, h2, h3⟩ := w.at_
  rw [h1] at ho
  cases ho
  have k3 : G3 p = some (.lst us) := x.g _ _ upd_same
  have f2 : F2 p = none := w.g.fg.no w.no
  have f3 : F3 p = none := x.n p f2 (by rw [upd_same]; simp)
  have gb := (w.g.back ok on x.f g3).chg (o' := .lst us) k3 f3 w.bos
  have eH : upd H3 p (.lst us) = H3 := by
    funext a
    by_cases z : a = p
    · subst z; rw [upd_same]; exact (g3.kp _ _ k3).symm
    · rw [upd_ne z]
  rw [eH] at gb
  refine ⟨w.x.trans ⟨fun a u' e => ?_, x.f, fun a e1 e2 => ?_⟩, gb, ?_, w.ows, ⟨us, g3.kp _ _ k3, h2.mono x.f, by omega⟩, w.bos⟩
  · have na : a ≠ p := fun z => by rw [z, w.no] at e; cases e
    unfold delH
    rw [if_neg na]
    exact x.g a u' (by rw [upd_ne na]; exact e)
  · exact x.n a e1 (by
      have na : a ≠ p := fun z => e2 (by rw [z]; exact w.no)
      rw [upd_ne na]; exact e2)
  · unfold delH; rw [if_pos rfl]
theorem lc_read {vs : List Nat} {mi : DI} {gg : DG} {mt : DT} {me : DE} (g : Good S G F σ H env) (q : (mLc vs mi gg mt me env).wp (PostF S G F σ env Q)) : tLc (TIx (imComp vs) S mi) (TG_ S vs gg) (TT_ S mt) (TE_ S me) vs σ H Q := by
  unfold mLc at q
  split at q
  · rename_i ok
    refine ⟨G, F, env, g, ok, M.wp_mono (M.wpb q) fun ds q J G1 F1 H1 e1 g1 its hz => ?_⟩
    intro p hp
    have nst := g1.stNe hp
    refine ⟨fun i m H => m = ds.length - i ∧ i ≤ ds.length ∧ ∃ G2 F2 acc, Grow S G1 F1 σ env p H acc i G2 F2 ∧ (mLcL gg mt me (wipeE env vs) (ds.drop i) acc).wp (fun ys => PostF S G F σ env Q (.lst ys)),
      ⟨ds.length, by simp, Nat.zero_le _, G1, F1, [], Grow.start g1 hp, by rw [List.drop_zero]; exact M.wpb q⟩, ?_⟩
    rintro i m H ⟨rfl, hi, G2, F2, acc, w, q⟩
    have comp : (imComp vs).P F1 σ env F2 σ env := ⟨w.x.f, fun _ _ => ⟨rfl, rfl⟩⟩
    by_cases hlt : i < ds.length
    · obtain ⟨o, ho, xb, gb⟩ := w.blk vs nst.1 nst.2
      have compW : (imComp vs).P F1 σ env F2 (wipe σ vs) (wipeE env vs) := ⟨w.x.f, fun j hj => ⟨wipe_out hj, wipeE_out hj⟩⟩
      refine .inr ⟨its.go i _ _ _ H _ compW gb hlt, fun H => ∃ G2 F2 acc, Grow S G1 F1 σ env p H acc (i + 1) G2 F2 ∧ (mLcL gg mt me (wipeE env vs) (ds.drop (i + 1)) acc).wp (fun ys => PostF S G F σ env Q (.lst ys)),
        fun H' h => ⟨ds.length - (i + 1), by omega, rfl, hlt, h⟩, fun x H' y => ?_⟩
      obtain ⟨G3, F3, e3, g3, r3⟩ := its.yld i _ _ _ H _ x H' ds[i] compW gb (by simp [hlt]) y
      rw [List.drop_eq_getElem_cons hlt] at q
      refine ⟨G3, F3, wipeE env vs, ds[i], g3, r3, M.wp_mono (M.wpb q) fun env3 q σ3 o3 g3' => ⟨?_, G3, F3, env3, g3', M.wp_mono (M.wpb q) fun k q G4 F4 H4 e4 g4 => ?_⟩⟩
      · rw [o3.1, wipe_idem]
      · cases k with
        | true =>
          rw [if_pos rfl] at q ⊢
          refine ⟨G4, F4, env3, g4, M.wp_mono (M.wpb q) fun yd q u G5 F5 H5 e5 g5 r5 => ?_⟩
          obtain ⟨us, hus, hul, w'⟩ := w.next ho ok (e3.trans (e4.trans e5)) o3 g5 r5
          exact ⟨us, hus, by omega, delH G5 p, F5, _, w', q⟩
        | false =>
          rw [if_neg (by decide)] at q ⊢
          exact ⟨delH G4 p, F4, acc, w.skip ho ok (e3.trans e4) o3 g4, q⟩
    · have e : i = ds.length := by omega
      subst e
      rw [List.drop_length] at q
      obtain ⟨us, h1, h2, h3⟩ := w.at_
      refine .inl ⟨its.stop _ G2 F2 σ H env comp w.g (Nat.le_refl _), ?_⟩
      have q' : PostF S G F σ env Q (.lst acc) := q
      exact q' p G2 F2 H (e1.trans w.x) w.g ⟨w.no, nst.1, nst.2, w.ows, us, h1, h2, by omega⟩
  · exact q.elim
theorem qlc (own : List (Str × Nat)) {tg iter : Expr} {ifs : List Expr} {scope : Scope} {mi : DI} {gg : DG} {mt : DT} {me : DE} (hN : X.N.Nodup) (hi : QI (imComp (own.map (·.2))) S X tg iter mi) (ok : BlkOk X.N X.env.scope scope own)
    (hg : ∀ (s : Shared) (H : Hp) (C : Addr) (cl : List (Str × Addr)) (fp : List Addr), QG S (own.map (·.2)) (X.blk s H scope (compEnvC scope cl C X.env) fp) tg gg) (ht : ∀ (s : Shared) (H : Hp) (C : Addr) (cl : List (Str × Addr)) (fp : List Addr), QTs S (X.blk s H scope (compEnvC scope cl C X.env) fp) ifs mt)
    (he : ∀ (s : Shared) (H : Hp) (C : Addr) (cl : List (Str × Addr)) (fp : List Addr), QE S (X.blk s H scope (compEnvC scope cl C X.env) fp) e me) (hc : X.calm = true := by rfl) (hs : ∀ x, foldedSetIterable iter X.env x = pure x := by intro _; rfl) :
    QF S X (.ListComp e [⟨tg, iter, ifs, 0⟩] scope pos) (mLc (own.map (·.2)) mi gg mt me) :=
  pe_weak (pe_lc hc hN hi ok hg ht he hs) fun σ H Q ⟨G, F, env, g, q⟩ => lc_read g q
/-- y = [..], y a local name -/
theorem qsetLc (i : Nat) (own : List (Str × Nat)) {y : Str} {py : Pos} {tg iter : Expr} {ifs : List Expr} {scope : Scope} {mi : DI} {gg : DG} {mt : DT} {me : DE} (hN : X.N.Nodup) (hi : QI (imComp (own.map (·.2))) S X tg iter mi) (ok : BlkOk X.N X.env.scope scope own)
    (hg : ∀ (s : Shared) (H : Hp) (C : Addr) (cl : List (Str × Addr)) (fp : List Addr), QG S (own.map (·.2)) (X.blk s H scope (compEnvC scope cl C X.env) fp) tg gg) (ht : ∀ (s : Shared) (H : Hp) (C : Addr) (cl : List (Str × Addr)) (fp : List Addr), QTs S (X.blk s H scope (compEnvC scope cl C X.env) fp) ifs mt)
    (he : ∀ (s : Shared) (H : Hp) (C : Addr) (cl : List (Str × Addr)) (fp : List Addr), QE S (X.blk s H scope (compEnvC scope cl C X.env) fp) e me)
    (hsw : swapsWith (.ListComp e [⟨tg, iter, ifs, 0⟩] scope pos) (some (.Name y py)) pp.line X.env = pure true)
    (hy : X.N[i]? = some y := by rfl) (hyl : X.env.scope.names.lookup y = some .local := by rfl) (hc : X.calm = true := by rfl) (hs : ∀ x, foldedSetIterable iter X.env x = pure x := by intro _; rfl) :
    QS S X (.Assign [.Name y py] (.ListComp e [⟨tg, iter, ifs, 0⟩] scope pos) pp) (mSetO i (mLc (own.map (·.2)) mi gg mt me)) :=
  ps_weak (ps_setLc hc hN hy hyl hsw hi ok hg ht he hs) fun D' σ H ⟨G, F, env, g, q⟩ => by
    show tLc _ _ _ _ _ σ H fun x H1 => gName i x σ H1 D'.nx
    refine lc_read g (M.wp_mono (M.wpb q) fun d q p G1 F1 H1 e1 g1 f1 => ?_)
    exact q _ G1 F1 H1 e1 (g1.setOwn f1)

/-! ### a list's methods -/
def mMeth (op : List D → List D → M D) (m : DE) (ms : DA) : DE := fun env => m env >>= fun x => match x with
  | .lst xs => ms env >>= fun ds => op xs ds
  | _ => .fail
def MtD (S : SA) (X : Cx) (id : String) (op : List D → List D → M D) : Prop := ∃ r : V → List V → Hp → VK → Prop, MtR X id r ∧ ∀ (G F : Hp) (σ : L2.St) (H : Hp) (env : DEnv) (v : V) (vs : List V) (xs ds : List D) (Q : VK),
  Good S G F σ H env → RdB S F σ env (.lst xs) v → RdBL S F σ env ds vs → (op xs ds).wp (Post S G F σ env Q) → r v vs H Q
theorem qmeth {name : Str} {id : String} {op : List D → List D → M D} {o : Expr} {apos cpos : Pos} (pa : PlainAttrs "list") (slot : Slot "list" name id) (hty : typeOf (.builtin id) = pure (.type "method_descriptor")) (hm : MtD S X id op) (ho : QB S X o m) (ha : QAB S X (e :: es) ms)
    (hbase : attributeBase o name X.env (eval o X.env) = eval o X.env := by rfl)
    (hfew : ((backTo cpos (starEach (e :: es) X.env)).all (fun x => !x.1) && (backToKw cpos (keywordEach [] X.env)).all (fun x => x.1.isSome)
      && decide ((e :: es).length + ([] : List Keyword).length + (if ([] : List Keyword).isEmpty then 0 else 1) < 30)) = true := by rfl)
    (hline : (apos.endLine == cpos.line) = true := by rfl) (hs : starEach (e :: es) X.env = (false, eval e X.env) :: starEach es X.env := by rfl) (hplain : (backTo cpos (starEach es X.env)).any (·.1) = false := by rfl) :
    QE S X (.Call (.Attribute o name apos) (e :: es) [] cpos) (mMeth op m ms) := by
  obtain ⟨r, hr, k⟩ := hm
  exact pe_weak (pe_bm pa slot hty hr ho ha hbase hfew hline hs hplain) fun σ H Q ⟨G, F, env, g, q⟩ => ⟨G, F, env, g, M.wp_mono (M.wpb q) fun d q v G1 F1 H1 e1 g1 r1 => by
    cases d with
    | lst xs =>
      obtain ⟨p, us, rfl, h1, l1, z1⟩ := r1.lst g1
      exact ⟨.inl ⟨rfl, us, .of h1⟩, G1, F1, env, g1, M.wp_mono (M.wpb q) fun ds q vs G2 F2 H2 e2 g2 r2 => k G2 F2 σ H2 env _ vs xs ds Q g2 (r1.mono e2.f) r2 (M.wp_mono q fun _ => post_shift (e1.trans e2))⟩
    | _ => exact q.elim⟩
def idxD (xs : List D) (y : D) : Option Nat := xs.findIdx? fun z => D.beq z y
def dIndex : List D → List D → M D
  | xs, [y] => if y.pl 63 && D.plL 63 xs then (match idxD xs y with
    | some j => .ret (.int (j : Nat))
    | none => .fail) else .fail
  | _, _ => .fail
theorem pyL_get : ∀ (xs : List D) (j : Nat), (D.pyL xs)[j]? = xs[j]?.map D.py
  | [], j => by simp [D.pyL]
  | x :: xs, 0 => by simp [D.pyL]
  | x :: xs, j + 1 => by simpa [D.pyL] using pyL_get xs j
theorem plL_get : ∀ {n : Nat} {xs : List D} {j : Nat} {x : D}, D.plL n xs = true → xs[j]? = some x → x.pl n = true
  | n, y :: ys, 0, x, h, e => by simp at e; subst e; simp only [D.plL, Bool.and_eq_true] at h; exact h.1
  | n, y :: ys, j + 1, x, h, e => by simp only [D.plL, Bool.and_eq_true] at h; exact plL_get h.2 (by simpa using e)
theorem t_index (hu : X.A.units + 65 < cLine) : MtD S X "list.index" dIndex := ⟨_, mt_indexD hu, fun G F σ H env v vs xs ds Q g r rs q => by
  unfold dIndex at q
  split at q
  · split at q
    · rename_i y hc
      rw [Bool.and_eq_true] at hc
      split at q
      · rename_i j hj
        obtain ⟨u, rfl, ru⟩ := rdb1 rs
        have ⟨p, us, ev, _, _, _⟩ := r.lst g
        subst ev
        obtain ⟨p1, s1⟩ := ru.shaped (K := X.K) g (D.pl_succ _ _ hc.1)
        obtain ⟨p2, s2⟩ := r.shaped (K := X.K) g (show (D.lst _).pl 64 = true from hc.2)
        obtain ⟨hl, h1, h2⟩ := List.findIdx?_eq_some_iff_getElem.mp hj
        refine ⟨p, u, y.py, D.pyL _, j, _, rfl, rfl, by simpa only [D.py] using p2, p1, by simpa only [D.py] using s2, s1, by rw [pyL_get, List.getElem?_eq_getElem hl]; rfl, ?_, fun k z hk hz => ?_, Post.now q g (.int _)⟩
        · rw [D.eqv_beq 63 _ _ (plL_get hc.2 (List.getElem?_eq_getElem hl)) hc.1]; exact h1
        · have hkl : k < xs.length := by omega
          rw [pyL_get, List.getElem?_eq_getElem hkl] at hz
          cases hz
          rw [D.eqv_beq 63 _ _ (plL_get hc.2 (List.getElem?_eq_getElem hkl)) hc.1]
          have := h2 k hk
          simpa using this
      · exact q.elim
    · exact q.elim
  · exact q.elim⟩
theorem qindex {o : Expr} {apos cpos : Pos} (hu : X.A.units + 65 < cLine) (ho : QB S X o m) (ha : QB S X e ma) (n1 : starEach [e] X.env = (false, eval e X.env) :: starEach [] X.env := by rfl)
    (hbase : attributeBase o "index" X.env (eval o X.env) = eval o X.env := by rfl)
    (hfew : ((backTo cpos (starEach [e] X.env)).all (fun x => !x.1) && (backToKw cpos (keywordEach [] X.env)).all (fun x => x.1.isSome)
      && decide ([e].length + ([] : List Keyword).length + (if ([] : List Keyword).isEmpty then 0 else 1) < 30)) = true := by rfl)
    (hline : (apos.endLine == cpos.line) = true := by rfl) (hplain : (backTo cpos (starEach [] X.env)).any (·.1) = false := by rfl) : QE S X (.Call (.Attribute o "index" apos) [e] [] cpos) (mMeth dIndex m (aCons ma aNil)) :=
  qmeth PySem.F.plainAttrs_list PySem.F.slot_list_index PySem.F.type_list_index (t_index hu) ho (qab_cons ha qab_nil n1) hbase hfew hline n1 hplain
/-- an own list at name i is changed -/
theorem Good.ownSet {vs : List V} {ds : List D} (g : Good S G F σ H env) (e : env[i]? = some (some (.own d))) (hp : σ[i]? = some (some (.ref p))) (r : RpL S F ds vs) (z : vs.length ≤ sizeLine) : Good S G F σ (upd H p (.lst vs)) (env.set i (some (.own (.lst ds)))) := by
  obtain ⟨a, h1, h2, h3, h4, h5⟩ := g.slot i _ e
  rw [hp] at h1
  cases h1
  have hi : i < env.length := (List.getElem?_eq_some_iff.mp e).1
  refine ⟨fun b u q => ?_, g.fg, ⟨g.st.1, ?_⟩, g.ns, g.nc, by rw [List.length_set]; exact g.len, fun j sl q => ?_, fun j k dj dk b e1 e2 e3 e4 => ?_⟩
  · have nb : b ≠ p := fun z => by rw [z, h2] at q; cases q
    rw [upd_ne nb]; exact g.kp b u q
  · obtain ⟨_, n, cs, q1, q2, q3⟩ := g.st
    exact ⟨n, cs, by rw [upd_ne h3.symm]; exact q1, by rw [upd_ne h4.symm]; exact q2, q3⟩
  · by_cases hij : i = j
    · subst hij
      rw [List.getElem?_set_self hi] at q
      cases q
      exact ⟨p, hp, h2, h3, h4, vs, upd_same, r, z⟩
    · rw [List.getElem?_set_ne hij] at q
      have w := g.slot j sl q
      cases sl with
      | val d' => exact w
      | bor d' => exact w
      | own d' =>
        obtain ⟨b, w1, w2, w3, w4, w5⟩ := w
        have nb : b ≠ p := by
          rintro rfl
          exact hij (g.dist i j _ _ b e q hp w1)
        exact ⟨b, w1, w2, w3, w4, ownR_mono (Sub.refl _) (fun o z => by rw [upd_ne nb]; exact z) w5⟩
  · have fix : ∀ (l : Nat) (dl : D), (env.set i (some (.own (.lst ds))))[l]? = some (some (.own dl)) → ∃ dl', env[l]? = some (some (.own dl')) := fun l dl q => by
      by_cases hl : i = l
      · subst hl; exact ⟨d, e⟩
      · rw [List.getElem?_set_ne hl] at q; exact ⟨dl, q⟩
    obtain ⟨_, f1⟩ := fix j dj e1
    obtain ⟨_, f2⟩ := fix k dk e2
    exact g.dist j k _ _ b f1 f2 e3 e4
def mAppend (i : Nat) (m : DE) : DS := fun env => m env >>= fun d => match env[i]? with
  | some (some (.own (.lst xs))) => if xs.length < sizeLine then .ret (.nx, env.set i (some (.own (.lst (xs ++ [d]))))) else .fail
  | _ => .fail
theorem qappend (i : Nat) {x : Str} {np apos cpos epos : Pos} (ha : QE S X e m) (hN : X.N[i]? = some x := by rfl) (hv : Vis X.env.scope x := by first | exact Or.inl rfl | exact Or.inr (Or.inl rfl) | exact Or.inr (Or.inr rfl)) (hd : (x == ("__debug__" : Str)) = false := by decide)
    (hcd : (x == ("__classdict__" : Str)) = false := by decide) (n1 : starEach [e] X.env = (false, eval e X.env) :: starEach [] X.env := by rfl)
    (hbase : attributeBase (.Name x np) "append" X.env (eval (.Name x np) X.env) = eval (.Name x np) X.env := by rfl)
    (hfew : ((backTo cpos (starEach [e] X.env)).all (fun x => !x.1) && (backToKw cpos (keywordEach [] X.env)).all (fun x => x.1.isSome)
      && decide ([e].length + ([] : List Keyword).length + (if ([] : List Keyword).isEmpty then 0 else 1) < 30)) = true := by rfl)
    (hline : (apos.endLine == cpos.line) = true := by rfl) (hplain : (backTo cpos (starEach [] X.env)).any (·.1) = false := by rfl) (hs : swapsWith (.Call (.Attribute (.Name x np) "append" apos) [e] [] cpos) none epos.line X.env = pure false := by rfl) :
    QS S X (.Expr (.Call (.Attribute (.Name x np) "append" apos) [e] [] cpos) epos) (mAppend i m) :=
  ps_weak (ps_expr (pe_bm PySem.F.plainAttrs_list PySem.F.slot_list_append PySem.F.type_list_append mt_append (pe_var hN hv hd hcd) (qa_cons ha qa_nil n1) hbase hfew hline n1 hplain) hs) fun D' σ H ⟨G, F, env, g, q⟩ => by
    -- what stands at the name ahead of the argument
    have own : ∃ a, σ[i]? = some (some (.ref a)) ∧ ∃ xs vs, env[i]? = some (some (.own (.lst xs))) ∧ H a = some (.lst vs) := by
      have q' := M.wpb q
      have nf : ∃ xs, env[i]? = some (some (.own (.lst xs))) := by
        have step : ∀ {mm : M D} {f : D → M (Fl × DEnv)} {P : Fl × DEnv → Prop}, (mm.wp fun a => (f a).wp P) → (∀ a, (f a).wp P → ∃ xs, env[i]? = some (some (.own (.lst xs)))) → ∃ xs, env[i]? = some (some (.own (.lst xs))) := by
          intro mm f P h1 h2
          induction mm with
          | ret a => exact h2 a h1
          | fail => exact h1.elim
          | ask k g ih => exact ih 0 (h1.2 0 (Int.le_refl _) h1.1.1)
        refine step q' fun a h => ?_
        split at h
        · rename_i xs e; exact ⟨xs, e⟩
        · exact h.elim
      obtain ⟨xs, e⟩ := nf
      obtain ⟨a, h1, _, _, _, vs, h2, _⟩ := g.slot i _ e
      exact ⟨a, h1, xs, vs, e, h2⟩
    obtain ⟨a, ha', xs, vs, e, hv'⟩ := own
    refine ⟨.ref a, ha', .inl ⟨rfl, vs, .of hv'⟩, G, F, env, g, ?_⟩
    have q' := M.wpb q
    rw [e] at q'
    refine (M.wp_bind (g := fun ds => M.ret ds)).mp ?_
    show M.wp (M.bind (M.bind (m env) fun x => M.bind (M.ret []) fun xs => M.ret (x :: xs)) M.ret) _
    rw [M.wp_bind, M.wp_bind]
    refine M.wp_mono q' fun d q us G1 F1 H1 e1 g1 r1 => ?_
    simp only at q
    split at q
    · cases r1 with
      | cons r t =>
        cases t
        obtain ⟨b, b1, b2, b3, b4, ws, b5, b6, b7⟩ := g1.slot i _ e
        rw [ha'] at b1
        cases b1
        have n := b6.len
        exact ⟨a, ws, _, rfl, rfl, b5, by omega, q _ G1 F1 _ e1 (g1.ownSet e ha' (b6.append (.cons r .nil)) (by rw [List.length_append, List.length_singleton]; omega))⟩
    · exact q.elim
end
end DL

set_option Elab.async false
set_option linter.all false
set_option maxRecDepth 100000
/-! DL8: a def's promise by trees; calls; the law's own state. -/
namespace DL
open PySem PySem.Spec L2
open PyProof.Rows hiding St

/-- an argument: a value that stands still, or (b) one that is only looked at -/
def ArgR (S : SA) (F H : Hp) (b : Bool) (d : D) (v : V) : Prop := Rp S F d v ∨ (b = true ∧ ∃ a, v = .ref a ∧ a ≠ S.sa ∧ a ≠ S.ca ∧ OwnR S F H a d)
inductive ArgsR (S : SA) (F H : Hp) : List Bool → List D → List V → Prop
  | nil : ArgsR S F H [] [] []
  | cons {b : Bool} {bs : List Bool} {d : D} {ds : List D} {v : V} {vs : List V} : ArgR S F H b d v → ArgsR S F H bs ds vs → ArgsR S F H (b :: bs) (d :: ds) (v :: vs)
theorem ArgsR.len {S : SA} {F H : Hp} : ∀ {bs : List Bool} {ds : List D} {vs : List V}, ArgsR S F H bs ds vs → ds.length = bs.length ∧ vs.length = bs.length
  | _, _, _, .nil => ⟨rfl, rfl⟩
  | _, _, _, .cons _ t => ⟨congrArg (· + 1) t.len.1, congrArg (· + 1) t.len.2⟩
theorem ArgsR.get {S : SA} {F H : Hp} : ∀ {bs : List Bool} {ds : List D} {vs : List V} {i : Nat} {d : D}, ArgsR S F H bs ds vs → ds[i]? = some d → ∃ b v, bs[i]? = some b ∧ vs[i]? = some v ∧ ArgR S F H b d v
  | _, _, _, _, _, .nil, e => by simp at e
  | _, _, _, 0, _, .cons r _, e => by simp at e; subst e; exact ⟨_, _, rfl, rfl, r⟩
  | _, _, _, i + 1, d, .cons _ t, e => by
    obtain ⟨b, u, h0, h1, h2⟩ := ArgsR.get (i := i) (d := d) t (by simpa using e)
    exact ⟨b, u, by simpa using h0, by simpa using h1, h2⟩
theorem ArgsR.mono {S : SA} {F F' H H' : Hp} (s : Sub F F') (k : ∀ a o, a ≠ S.sa → a ≠ S.ca → H a = some o → H' a = some o) : ∀ {bs : List Bool} {ds : List D} {vs : List V}, ArgsR S F H bs ds vs → ArgsR S F' H' bs ds vs
  | _, _, _, .nil => .nil
  | _, _, _, .cons r t => .cons (by
      rcases r with r | ⟨hb, a, e, n1, n2, r⟩
      · exact .inl (r.mono s)
      · exact .inr ⟨hb, a, e, n1, n2, ownR_mono s (fun o z => k a o n1 n2 z) r⟩) (t.mono s k)
/-- a def promises what its mirror m tells; bs: which arguments are only looked at -/
def spD (S : SA) (bs : List Bool) (m : List D → M D) : Sp := fun vs H Q _ => ∃ F ds, Sub F H ∧ F S.sa = none ∧ F S.ca = none ∧ StOk S H ∧ ArgsR S F H bs ds vs ∧
  (m ds).wp fun d => ∀ v F' H', Sub F F' → Sub F' H' → (∀ a, F a = none → F' a ≠ none → H a = none) → (∀ a o, a ≠ S.sa → a ≠ S.ca → H a = some o → H' a = some o) → StOk S H' → Rp S F' d v → Q v H'
def slots : List Bool → List D → DEnv
  | b :: bs, d :: ds => some (if b then .bor d else .val d) :: slots bs ds
  | _, _ => []
def envOf (N : Nat) (bs : List Bool) (ds : List D) : DEnv := slots bs ds ++ List.replicate (N - ds.length) none
/-- a body's mirror as a def's -/
def fnM (N : Nat) (bs : List Bool) (mb : DS) (ds : List D) : M D := mb (envOf N bs ds) >>= fun r => match r.1 with
  | .rt d => .ret d
  | .nx => .ret .non
  | _ => .fail
section
variable {S : SA} {X : Cx} {G F G' F' H H' : Hp} {σ : L2.St} {env : DEnv} {d : D} {v : V} {p : Addr} {Q : VK} {m ma mb mc : DE} {t ta tb : DT} {ms : DA} {a b c e : Expr} {es rest : List Expr} {pos pp : Pos} {x : Str} {i : Nat}
theorem RdB.arg (g : Good S G F σ H env) (h : RdB S F σ env d v) : ArgR S F H true d v := by
  rcases h with h | ⟨i, h1 | h1, h2⟩
  · exact .inl h
  · obtain ⟨a, h3, _, n1, n2, h4⟩ := g.slot i _ h1
    rw [h2] at h3
    cases h3
    exact .inr ⟨rfl, _, rfl, n1, n2, h4⟩
  · obtain ⟨u, h3, h4⟩ := g.slot i _ h1
    rw [h2] at h3
    cases h3
    rcases h4 with h4 | ⟨a, e, h4⟩
    · exact .inl h4
    · obtain ⟨o, ho⟩ := ownR_some h4
      refine .inr ⟨rfl, a, e, fun z => ?_, fun z => ?_, ownR_mono (Sub.refl _) (fun o z => g.kp _ _ z) h4⟩
      · rw [z, g.ns] at ho; cases ho
      · rw [z, g.nc] at ho; cases ho
theorem Good.call {vs : List V} {bs : List Bool} {ds : List D} {mf : List D → M D} {E : XK} (g : Good S G F σ H env) (r : ArgsR S F H bs ds vs) (q : (mf ds).wp (Post S G F σ env Q)) : spD S bs mf vs H Q E := by
  refine ⟨F, ds, g.fh, g.fsa, g.fca, g.st, r, M.wp_mono q fun d q v F' H' s1 s2 nw kp st rv => ?_⟩
  have fz : ∀ a, G a = none → H a ≠ none → F' a = none := fun a h1 h2 => by
    cases q' : F' a with
    | none => rfl
    | some o => exact absurd (nw a (g.fg.no h1) (by rw [q']; simp)) h2
  have fsa : F' S.sa = none := fz _ g.ns (by obtain ⟨_, n, cs, q1, _⟩ := g.st; rw [q1]; simp)
  have fca : F' S.ca = none := fz _ g.nc (by obtain ⟨_, n, cs, _, q1, _⟩ := g.st; rw [q1]; simp)
  have nsa : ∀ a o, G a = some o → a ≠ S.sa ∧ a ≠ S.ca := fun a o e => ⟨fun z => (by rw [z, g.ns] at e; cases e), fun z => (by rw [z, g.nc] at e; cases e)⟩
  refine q v (fun a => match G a with | some o => some o | none => F' a) F' H' ⟨fun a o e => ?_, s1, fun a h1 h2 => ?_⟩ ⟨fun a o e => ?_, fun a o e => ?_, st, ?_, ?_, g.len, fun i sl e => ?_, g.dist⟩ rv
  · show (match G a with | some o => some o | none => F' a) = some o
    rw [e]
  · cases q' : F' a with
    | none => rfl
    | some o =>
      have hn := nw a h1 (by rw [q']; simp)
      exact absurd (g.no hn) h2
  · have e' : (match G a with | some o => some o | none => F' a) = some o := e
    cases q' : G a with
    | none => rw [q'] at e'; exact s2 a o e'
    | some u =>
      rw [q'] at e'
      cases e'
      exact kp a _ (nsa a _ q').1 (nsa a _ q').2 (g.kp a _ q')
  · show (match G a with | some o => some o | none => F' a) = some o
    cases q' : G a with
    | none => exact e
    | some u =>
      cases q2 : F a with
      | none =>
        have hn := nw a q2 (by rw [e]; simp)
        rw [g.kp a _ q'] at hn; cases hn
      | some w =>
        have e3 := s1 a w q2
        rw [e] at e3
        have e4 := g.fg a w q2
        rw [q'] at e4
        rw [e3] at *
        exact e4
  · show (match G S.sa with | some o => some o | none => F' S.sa) = none
    rw [g.ns]; exact fsa
  · show (match G S.ca with | some o => some o | none => F' S.ca) = none
    rw [g.nc]; exact fca
  · have w := g.slot i sl e
    cases sl with
    | val d' => obtain ⟨u, h1, h2⟩ := w; exact ⟨u, h1, h2.mono s1⟩
    | bor d' =>
      obtain ⟨u, h1, h2⟩ := w
      refine ⟨u, h1, h2.mono (fun a o e => ?_) s1⟩
      show (match G a with | some o => some o | none => F' a) = some o
      rw [e]
    | own d' =>
      obtain ⟨a, h1, h2, h3, h4, h5⟩ := w
      obtain ⟨o, ho⟩ := ownR_some h5
      refine ⟨a, h1, ?_, h3, h4, ownR_mono s1 (fun o z => kp a o h3 h4 z) h5⟩
      show (match G a with | some o => some o | none => F' a) = none
      rw [h2]; exact fz a h2 (by rw [ho]; simp)
/-! arguments, each by its kind -/
def PostM (S : SA) (G F : Hp) (σ : L2.St) (env : DEnv) (bs : List Bool) (Q : List V → Hp → Prop) (ds : List D) : Prop := ∀ vs G' F' H', Ext G F G' F' → Good S G' F' σ H' env → ArgsR S F' H' bs ds vs → Q vs H'
/-- an argument as it is to be taken on: by its name, or as a value -/
def RdM (S : SA) (F : Hp) (σ : L2.St) (env : DEnv) (b : Bool) (d : D) (v : V) : Prop := if b then RdB S F σ env d v else Rp S F d v
inductive RdMs (S : SA) (F : Hp) (σ : L2.St) (env : DEnv) : List Bool → List D → List V → Prop
  | nil : RdMs S F σ env [] [] []
  | cons {b : Bool} {bs : List Bool} {d : D} {ds : List D} {v : V} {vs : List V} : RdM S F σ env b d v → RdMs S F σ env bs ds vs → RdMs S F σ env (b :: bs) (d :: ds) (v :: vs)
def PostMs (S : SA) (G F : Hp) (σ : L2.St) (env : DEnv) (bs : List Bool) (Q : List V → Hp → Prop) (ds : List D) : Prop := ∀ vs G' F' H', Ext G F G' F' → Good S G' F' σ H' env → RdMs S F' σ env bs ds vs → Q vs H'
def TAM_ (S : SA) (bs : List Bool) (m : DA) : TA := fun σ H Q => ∃ G F env, Good S G F σ H env ∧ (m env).wp (PostMs S G F σ env bs Q)
def QAM (S : SA) (X : Cx) (bs : List Bool) (es : List Expr) (m : DA) : Prop := PA X es (TAM_ S bs m)
theorem qam_nil : QAM S X [] [] aNil := pa_weak pa_nil fun σ H Q ⟨G, F, env, g, q⟩ => q [] G F H (Ext.refl _ _) g .nil
theorem qam_v {bs : List Bool} (ha : QE S X e m) (hr : QAM S X bs es ms) (hs : starEach (e :: es) X.env = (false, eval e X.env) :: starEach es X.env := by rfl) : QAM S X (false :: bs) (e :: es) (aCons m ms) :=
  pa_weak (pa_cons ha hr hs) fun σ H Q ⟨G, F, env, g, q⟩ => ⟨G, F, env, g, M.wp_mono (M.wpb q) fun d q v G1 F1 H1 e1 g1 r1 => ⟨G1, F1, env, g1, M.wp_mono (M.wpb q) fun ds q vs G2 F2 H2 e2 g2 r2 =>
    q _ G2 F2 H2 (e1.trans e2) g2 (.cons (show RdM S F2 σ env false d v from r1.mono e2.f) r2)⟩⟩
theorem qam_b {bs : List Bool} (ha : QB S X e m) (hr : QAM S X bs es ms) (hs : starEach (e :: es) X.env = (false, eval e X.env) :: starEach es X.env := by rfl) : QAM S X (true :: bs) (e :: es) (aCons m ms) :=
  pa_weak (pa_cons ha hr hs) fun σ H Q ⟨G, F, env, g, q⟩ => ⟨G, F, env, g, M.wp_mono (M.wpb q) fun d q v G1 F1 H1 e1 g1 r1 => ⟨G1, F1, env, g1, M.wp_mono (M.wpb q) fun ds q vs G2 F2 H2 e2 g2 r2 =>
    q _ G2 F2 H2 (e1.trans e2) g2 (.cons (show RdM S F2 σ env true d v from r1.mono e2.f) r2)⟩⟩
theorem RdMs.args (g : Good S G F σ H env) : ∀ {bs : List Bool} {ds : List D} {vs : List V}, RdMs S F σ env bs ds vs → ArgsR S F H bs ds vs
  | _, _, _, .nil => .nil
  | true :: _, _, _, .cons r t => .cons (RdB.arg g r) (RdMs.args g t)
  | false :: _, _, _, .cons r t => .cons (.inl r) (RdMs.args g t)
/-- a call of a def of the text -/
theorem qcall {k : Nat} {f : Addr} {fd : FuncData} {ps : List Str} {mf : List D → M D} {pos : Pos} {bs : List Bool} (FO : FnOk X.prog X.w X.K X.mg X.base CX0 k f fd ps (spD S bs mf)) (hr : Room k X.A) (hg : Gl X x) (hm : X.mg x = some (.ref f)) (hk : PySem.W.keepIn X.K (.ref f) = true) (hb : Binds X.K fd ps []) (ha : QAM S X bs (e :: es) ms)
    (hdb : (x == ("__debug__" : Str)) = false := by decide) (he : starEach (e :: es) X.env = (false, eval e X.env) :: starEach es X.env := by rfl) (hpl : (backTo pos (starEach es X.env)).any (·.1) = false := by rfl) :
    QE S X (.Call (.Name x pp) (e :: es) [] pos) (mCall mf ms) :=
  pe_weak (pe_call FO hr hg hm hk hb .nil pass0 ha hdb he hpl) fun σ H Q ⟨G, F, env, g, q⟩ => ⟨G, F, env, g, M.wp_mono (M.wpb q) fun ds q vs G1 F1 H1 e1 g1 r1 => by
    show spD S bs mf (vs ++ []) H1 Q E0
    rw [List.append_nil]
    exact g1.call (r1.args g1) (M.wp_mono q fun _ => post_shift e1)⟩
end
theorem start_get {N : List Str} {vs : List V} {j : Nat} {v : V} (h : vs[j]? = some v) : (L2.start N vs)[j]? = some (some v) := by
  unfold L2.start
  have hj : j < vs.length := (List.getElem?_eq_some_iff.mp h).1
  rw [List.getElem?_append_left (by rw [List.length_map]; exact hj), List.getElem?_map, h]; rfl
theorem slots_len : ∀ {bs : List Bool} {ds : List D}, ds.length = bs.length → (slots bs ds).length = ds.length
  | [], [], _ => rfl
  | b :: bs, d :: ds, h => congrArg (· + 1) (slots_len (Nat.succ.inj h))
  | [], _ :: _, h => by cases h
  | _ :: _, [], h => by cases h
theorem slots_get : ∀ {bs : List Bool} {ds : List D} {i : Nat} {x : Option Sl}, (slots bs ds)[i]? = some x → ∃ b d, bs[i]? = some b ∧ ds[i]? = some d ∧ x = some (if b then .bor d else .val d)
  | b :: bs, d :: ds, 0, x, h => by simp [slots] at h; exact ⟨b, d, rfl, rfl, h.symm⟩
  | b :: bs, d :: ds, i + 1, x, h => by
    obtain ⟨b', d', h1, h2, h3⟩ := slots_get (bs := bs) (ds := ds) (i := i) (x := x) (by simpa [slots] using h)
    exact ⟨b', d', by simpa using h1, by simpa using h2, h3⟩
  | [], _, _, _, h => by simp [slots] at h
  | _ :: _, [], _, _, h => by simp [slots] at h
theorem good_start {S : SA} {F H : Hp} {N : List Str} {bs : List Bool} {ds : List D} {vs : List V} (s : Sub F H) (h1 : F S.sa = none) (h2 : F S.ca = none) (st : StOk S H) (r : ArgsR S F H bs ds vs) :
    Good S (fun a => if a = S.sa ∨ a = S.ca then none else H a) F (L2.start N vs) H (envOf N.length bs ds) := by
  have hl := slots_len r.len.1
  have slot : ∀ (i : Nat) (x : Option Sl), (envOf N.length bs ds)[i]? = some x → x = none ∨ ∃ b d, bs[i]? = some b ∧ ds[i]? = some d ∧ x = some (if b then .bor d else .val d) := fun i x e => by
    unfold envOf at e
    rcases Nat.lt_or_ge i (slots bs ds).length with hi | hi
    · rw [List.getElem?_append_left hi] at e
      exact .inr (slots_get e)
    · rw [List.getElem?_append_right hi, List.getElem?_replicate] at e
      split at e
      · cases e; exact .inl rfl
      · cases e
  refine ⟨fun a o e => ?_, fun a o e => ?_, st, by rw [if_pos (.inl rfl)], by rw [if_pos (.inr rfl)], ?_, fun i sl e => ?_, fun i j di dj a e => ?_⟩
  · split at e
    · cases e
    · exact e
  · have n : ¬ (a = S.sa ∨ a = S.ca) := by
      rintro (z | z)
      · rw [z, h1] at e; cases e
      · rw [z, h2] at e; cases e
    rw [if_neg n]; exact s a o e
  · unfold L2.start envOf
    rw [List.length_append, List.length_append, List.length_map, hl, List.length_replicate, List.length_replicate, r.len.1, r.len.2]
  · rcases slot i _ e with z | ⟨b, d, q1, q2, q3⟩
    · cases z
    · obtain ⟨b', v, q4, q5, q6⟩ := r.get q2
      rw [q1] at q4
      cases q4
      cases q3
      cases b with
      | true =>
        refine ⟨v, start_get q5, ?_⟩
        rcases q6 with q6 | ⟨_, a, e, n1, n2, q6⟩
        · exact .inl q6
        · exact .inr ⟨a, e, ownR_mono (Sub.refl _) (fun o z => by rw [if_neg (by rintro (z | z); exact n1 z; exact n2 z)]; exact z) q6⟩
      | false =>
        rcases q6 with q6 | ⟨hb, _⟩
        · exact ⟨v, start_get q5, q6⟩
        · cases hb
  · rcases slot i _ e with z | ⟨b, d, q1, q2, q3⟩
    · cases z
    · cases b <;> cases q3
section
variable {P : Program} {w : World} {K : PySem.W.Frag} {mg : Str → Option Value} {base : Heap}
/-- THE RULE for a def of the text: its body tells its mirror -/
theorem fn_ok {S : SA} {x qual : Str} {st : Stmt} {f : Addr} {fd : FuncData} {N ps : List Str} {k : Nat} {mb : DS} (bs : List Bool) (F : Fun K x qual st f fd) (Sc : FnScope N ps (defScope st)) (hn : ps.length = bs.length)
    (body : ∀ (cdv : Value) (A : Around) (outer : List Env) (s : Shared) (H : Hp) (E : XK), Room k (A.deeper (envOfC qual (defScope st) s.heap.objs.size f cdv)) → QSs S (cxOf CX0 P w K mg base N qual (defScope st) f cdv A outer s H E).nox (defBody st) mb) :
    FnOk P w K mg base CX0 (k + 1) f fd ps (spD S bs (fnM N.length bs mb)) := by
  refine F.ok Sc (fun vs H Q E h => ?_) (fun cdv A outer s H vs Q E hr h => ?_)
  · obtain ⟨F, ds, _, _, _, _, r, _⟩ := h
    rw [r.len.2, hn]
  · obtain ⟨F, ds, h1, h2, h3, h4, r, q⟩ := h
    refine ⟨_, body cdv A outer s H E hr, fun a => if a = S.sa ∨ a = S.ca then none else H a, F, _, good_start h1 h2 h3 h4 r, M.wp_mono (M.wpb q) fun r q σ' G' F' H' x g' => ?_⟩
    have fin : ∀ {d : D} {v : V}, (∀ v F' H', Sub F F' → Sub F' H' → (∀ a, F a = none → F' a ≠ none → H a = none) → (∀ a o, a ≠ S.sa → a ≠ S.ca → H a = some o → H' a = some o) → StOk S H' → Rp S F' d v → Q v H') → Rp S F' d v → Q v H' := fun {d v} q rv => by
      refine q v F' H' x.f g'.fh (fun a e1 e2 => ?_) (fun a o n1 n2 e => ?_) g'.st rv
      · cases e3 : H a with
        | none => rfl
        | some o =>
          have n1 : a ≠ S.sa := fun z => e2 (by rw [z]; exact g'.fsa)
          have n2 : a ≠ S.ca := fun z => e2 (by rw [z]; exact g'.fca)
          exact absurd (x.n a e1 (by rw [if_neg (by rintro (z | z); exact n1 z; exact n2 z), e3]; simp)) e2
      · refine g'.kp a o (x.g a o ?_)
        rw [if_neg (by rintro (z | z); exact n1 z; exact n2 z)]; exact e
    obtain ⟨fl, env'⟩ := r
    cases fl with
    | rt d => exact fun v rv => fin q rv
    | nx => exact fin (d := .non) q .non
    | bk => exact q.elim
    | ct => exact q.elim
/-- nothing is promised -/
theorem fn_zero {S : SA} {f : Addr} {fd : FuncData} {ps : List Str} {k : Nat} {bs : List Bool} : FnOk P w K mg base CX0 k f fd ps (spD S bs fun _ => .fail) := by
  have no : ∀ vs H Q E, ¬ spD S bs (fun _ => .fail) vs H Q E := fun vs H Q E h => by
    obtain ⟨F, ds, _, _, _, _, _, q⟩ := h
    exact q
  exact ⟨fun vs H Q E h => absurd h (no vs H Q E), fun A outer s H args us vs Q E _ _ _ _ h => absurd h (no vs H Q E)⟩

/-! ### the law's own draws: _law_take(state, most) -/
def takeM : List D → M D
  | [.stt, .int k] => .ask k fun r => .ret (.int r)
  | _ => .fail
def spTake (S : SA) : Sp := fun vs H Q _ => ∃ k : Int, vs = [.ref S.sa, .int k] ∧ 0 < k ∧ k < 2 ^ 30 ∧ StOk S H ∧ ∀ (r : Int) (H' : Hp), 0 ≤ r → r < k → StOk S H' → (∀ a, a ≠ S.sa → a ≠ S.ca → H' a = H a) → Q (.int r) H'
theorem take_fn {S : SA} {f : Addr} {fd : FuncData} {ps : List Str} {k : Nat} (FO : FnOk P w K mg base CX0 k f fd ps (spTake S)) : FnOk P w K mg base CX0 k f fd ps (spD S [false, false] takeM) :=
  FO.imp fun vs H Q E h => by
    obtain ⟨F, ds, h1, h2, h3, h4, r, q⟩ := h
    unfold takeM at q
    split at q
    · rename_i k
      obtain ⟨⟨k0, k1⟩, q⟩ := q
      cases r with
      | cons r1 t =>
        cases t with
        | cons r2 t =>
          cases t
          have r1 := r1.resolve_right (fun z => by cases z.1)
          have r2 := r2.resolve_right (fun z => by cases z.1)
          cases r1
          cases r2
          refine ⟨k, rfl, k0, k1, h4, fun z H' z0 z1 st kp => q z z0 z1 _ F H' (Sub.refl _) (fun a o e => ?_) (fun a e1 e2 => absurd e1 e2) (fun a o n1 n2 e => by rw [kp a n1 n2]; exact e) st (.int z)⟩
          have n1 : a ≠ S.sa := fun z => by rw [z, h2] at e; cases e
          have n2 : a ≠ S.ca := fun z => by rw [z, h3] at e; cases e
          rw [kp a n1 n2]; exact h1 a o e
    · exact q.elim
end
end DL

set_option Elab.async false
set_option linter.all false
set_option maxRecDepth 100000
/-! DL9: more statements; comprehensions of two clauses; dicts. -/
namespace DL
open PySem PySem.Spec L2
open PyProof.Rows hiding St

theorem hu65 {A : Around} {k : Nat} (hr : Room k A) : A.units + 65 < cLine := by have := hr.un; omega
theorem hu64 {A : Around} {k : Nat} (hr : Room k A) : A.units + 64 < cLine := by have := hr.un; omega
theorem hu1 {A : Around} {k : Nat} (hr : Room k A) : A.units + 1 < cLine := by have := hr.un; omega
section
variable {S : SA} {X : Cx} {G F G' F' H H' : Hp} {σ : L2.St} {env : DEnv} {d : D} {v : V} {p : Addr} {Q : VK} {m ma mb mc : DE} {t ta tb : DT} {ms : DA} {a b c e : Expr} {es rest : List Expr} {pos pp : Pos} {x : Str} {i : Nat}
theorem mLc_lst {vs : List Nat} {mi : DI} {gg : DG} {mt : DT} {me : DE} {P : D → Prop} (q : (mLc vs mi gg mt me env).wp P) : (mLc vs mi gg mt me env).wp fun d => ∃ xs, d = .lst xs ∧ P d := by
  unfold mLc at q ⊢
  split at q
  · rename_i h
    rw [if_pos h]
    exact M.wp_bind.mpr (M.wp_mono (M.wpb q) fun ds q => M.wp_bind.mpr (M.wp_mono (M.wpb q) fun ys q => ⟨ys, rfl, q⟩))
  · exact q.elim
theorem postF_set {xs : List D} {D' : Ends} (h : PostS S G F D' (.nx, env.set i (some (.val (.lst xs))))) : PostF S G F σ env (fun x H1 => D'.nx (σ.set i (some x)) H1) (.lst xs) :=
  post_freshL fun v G' F' H' e g r => h _ G' F' H' e (g.setVal r)
/-- y = [..], y a local name that stands still at once -/
theorem qsetLcV (i : Nat) (own : List (Str × Nat)) {y : Str} {py : Pos} {tg iter : Expr} {ifs : List Expr} {scope : Scope} {mi : DI} {gg : DG} {mt : DT} {me : DE} (hN : X.N.Nodup) (hi : QI (imComp (own.map (·.2))) S X tg iter mi) (ok : BlkOk X.N X.env.scope scope own)
    (hg : ∀ (s : Shared) (H : Hp) (C : Addr) (cl : List (Str × Addr)) (fp : List Addr), QG S (own.map (·.2)) (X.blk s H scope (compEnvC scope cl C X.env) fp) tg gg) (ht : ∀ (s : Shared) (H : Hp) (C : Addr) (cl : List (Str × Addr)) (fp : List Addr), QTs S (X.blk s H scope (compEnvC scope cl C X.env) fp) ifs mt)
    (he : ∀ (s : Shared) (H : Hp) (C : Addr) (cl : List (Str × Addr)) (fp : List Addr), QE S (X.blk s H scope (compEnvC scope cl C X.env) fp) e me)
    (hsw : swapsWith (.ListComp e [⟨tg, iter, ifs, 0⟩] scope pos) (some (.Name y py)) pp.line X.env = pure true)
    (hy : X.N[i]? = some y := by rfl) (hyl : X.env.scope.names.lookup y = some .local := by rfl) (hc : X.calm = true := by rfl) (hs : ∀ x, foldedSetIterable iter X.env x = pure x := by intro _; rfl) :
    QS S X (.Assign [.Name y py] (.ListComp e [⟨tg, iter, ifs, 0⟩] scope pos) pp) (mSetV i (mLc (own.map (·.2)) mi gg mt me)) :=
  ps_weak (ps_setLc hc hN hy hyl hsw hi ok hg ht he hs) fun D' σ H ⟨G, F, env, g, q⟩ => by
    show tLc _ _ _ _ _ σ H fun x H1 => gName i x σ H1 D'.nx
    refine lc_read g (M.wp_mono (mLc_lst (M.wpb q)) fun d q => ?_)
    obtain ⟨xs, rfl, q⟩ := q
    exact postF_set q
/-! ### two clauses -/
def mLc2I (vs1 : List Nat) (g1 : DG) (mt1 : DT) (me : DE) (env1 : DEnv) : List D → List D → M (List D)
  | [], acc => .ret acc
  | d :: ds, acc => g1 d (wipeE env1 vs1) >>= fun env2 => mt1 env2 >>= fun k => if k then me env2 >>= fun y => if acc.length < sizeLine then mLc2I vs1 g1 mt1 me env1 ds (acc ++ [y]) else .fail else mLc2I vs1 g1 mt1 me env1 ds acc
def mLc2L (vs vs1 : List Nat) (gg : DG) (mt : DT) (mi1 : DI) (g1 : DG) (mt1 : DT) (me : DE) (envw : DEnv) : List D → List D → M (List D)
  | [], acc => .ret acc
  | d :: ds, acc => gg d envw >>= fun env1 => mt env1 >>= fun k => if k then (if vs.all (notOwn env1) then mi1 env1 >>= fun es => mLc2I vs1 g1 mt1 me env1 es acc >>= fun acc' => mLc2L vs vs1 gg mt mi1 g1 mt1 me envw ds acc' else .fail) else mLc2L vs vs1 gg mt mi1 g1 mt1 me envw ds acc
def mLc2 (vs vs1 : List Nat) (mi : DI) (gg : DG) (mt : DT) (mi1 : DI) (g1 : DG) (mt1 : DT) (me : DE) : DE := fun env => if vs.all (notOwn env) then mi env >>= fun ds => mLc2L vs vs1 gg mt mi1 g1 mt1 me (wipeE env vs) ds [] >>= fun ys => .ret (.lst ys) else .fail
/-- the list that grows, seen from within a turn -/
theorem Grow.inner {G3 F3 H3 : Hp} {o : HO} (g3 : Good S G3 F3 σ H3 env) (k3 : G3 p = some o) (f3 : F3 p = none) {us : List V} {acc : List D} {n : Nat} (eo : o = .lst us) (r : RpL S F3 acc us) (hn : us.length ≤ n) (hb : NoBor σ env p) : Grow S (delH G3 p) F3 σ env p H3 acc n (delH G3 p) F3 := by
  subst eo
  have gb := g3.chg (o' := .lst us) k3 f3 hb
  have eH : upd H3 p (.lst us) = H3 := by
    funext a
    by_cases z : a = p
    · subst z; rw [upd_same]; exact (g3.kp _ _ k3).symm
    · rw [upd_ne z]
  rw [eH] at gb
  refine ⟨Ext.refl _ _, gb, by unfold delH; rw [if_pos rfl], fun i di e z => ?_, ⟨us, g3.kp _ _ k3, r, hn⟩, hb⟩
  obtain ⟨a, h1, h2, _⟩ := g3.slot i _ e
  rw [z] at h1
  cases h1
  rw [k3] at h2; cases h2
/-- and from without again -/
theorem Grow.outer {G1 F1 H0 : Hp} {acc0 acc : List D} {n0 n : Nat} {G2 F2 G3 F3 G5 F5 : Hp} {σ3 : L2.St} {env3 : DEnv} {o : HO} {vs : List Nat} (w : Grow S G1 F1 σ env p H0 acc0 n0 G2 F2) (ho : H0 p = some o) (ok : vs.all (notOwn env) = true)
    (x : Ext (upd G2 p o) F2 G3 F3) (on : Only vs (wipe σ vs) (wipeE env vs) σ3 env3) (w1 : Grow S (delH G3 p) F3 σ3 env3 p H acc n G5 F5) : Grow S G1 F1 σ env p H acc n G5 F5 := by
  have sf : Sub F2 F5 := x.f.trans w1.x.f
  have f2 : F2 p = none := w.g.fg.no w.no
  have f3 : F3 p = none := x.n p f2 (by rw [upd_same]; simp)
  refine ⟨w.x.trans ⟨fun a u e => ?_, sf, fun a e1 e2 => ?_⟩, w.g.back ok on sf w1.g, w1.no, w.ows, w1.at_, w.bos⟩
  · have na : a ≠ p := fun z => by rw [z, w.no] at e; cases e
    refine w1.x.g a u ?_
    unfold delH
    rw [if_neg na]
    exact x.g a u (by rw [upd_ne na]; exact e)
  · have na : a ≠ p := fun z => e2 (by rw [z]; exact w.no)
    refine w1.x.n a (x.n a e1 (by rw [upd_ne na]; exact e2)) fun z => e2 ?_
    unfold delH at z
    rw [if_neg na] at z
    have := x.g.no (a := a) z
    rw [upd_ne na] at this
    exact this
theorem lc2_read {vs vs1 : List Nat} (hv : ∀ i ∈ vs1, i ∈ vs) {mi mi1 : DI} {gg g1 : DG} {mt mt1 : DT} {me : DE} (g : Good S G F σ H env) (q : (mLc2 vs vs1 mi gg mt mi1 g1 mt1 me env).wp (PostF S G F σ env Q)) :
    tLc2 (TIx (imComp vs) S mi) (TG_ S vs gg) (TT_ S mt) (TIx (imComp vs1) S mi1) (TG_ S vs1 g1) (TT_ S mt1) (TE_ S me) vs vs1 σ H Q := by
  unfold mLc2 at q
  split at q
  · rename_i ok
    refine ⟨G, F, env, g, ok, M.wp_mono (M.wpb q) fun ds q J G1 F1 H1 e1 gg1 its hz => ?_⟩
    intro p hp
    have nst := gg1.stNe hp
    refine ⟨fun i m H => m = ds.length - i ∧ i ≤ ds.length ∧ ∃ G2 F2 acc, Grow S G1 F1 σ env p H acc acc.length G2 F2 ∧ acc.length ≤ sizeLine ∧ (mLc2L vs vs1 gg mt mi1 g1 mt1 me (wipeE env vs) (ds.drop i) acc).wp (fun ys => PostF S G F σ env Q (.lst ys)),
      ⟨ds.length, by simp, Nat.zero_le _, G1, F1, [], Grow.start gg1 hp, Nat.zero_le _, by rw [List.drop_zero]; exact M.wpb q⟩, ?_⟩
    rintro i m H ⟨rfl, hi, G2, F2, acc, w, hacc, q⟩
    have comp : (imComp vs).P F1 σ env F2 σ env := ⟨w.x.f, fun _ _ => ⟨rfl, rfl⟩⟩
    by_cases hlt : i < ds.length
    · obtain ⟨o, ho, xb, gb⟩ := w.blk vs nst.1 nst.2
      have compW : (imComp vs).P F1 σ env F2 (wipe σ vs) (wipeE env vs) := ⟨w.x.f, fun j hj => ⟨wipe_out hj, wipeE_out hj⟩⟩
      refine .inr ⟨its.go i _ _ _ H _ compW gb hlt, fun H => ∃ G2 F2 acc, Grow S G1 F1 σ env p H acc acc.length G2 F2 ∧ acc.length ≤ sizeLine ∧ (mLc2L vs vs1 gg mt mi1 g1 mt1 me (wipeE env vs) (ds.drop (i + 1)) acc).wp (fun ys => PostF S G F σ env Q (.lst ys)),
        fun H' h => ⟨ds.length - (i + 1), by omega, rfl, hlt, h⟩, fun x H' y => ?_⟩
      obtain ⟨G3, F3, e3, g3, r3⟩ := its.yld i _ _ _ H _ x H' ds[i] compW gb (by simp [hlt]) y
      rw [List.drop_eq_getElem_cons hlt] at q
      refine ⟨G3, F3, wipeE env vs, ds[i], g3, r3, M.wp_mono (M.wpb q) fun env3 q σ3 o3 g3' => ⟨?_, G3, F3, env3, g3', M.wp_mono (M.wpb q) fun k q G4 F4 H4 e4 g4 => ?_⟩⟩
      · rw [o3.1, wipe_idem]
      · have f2 : F2 p = none := w.g.fg.no w.no
        cases k with
        | false =>
          rw [if_neg (by decide)] at q
          refine L2.iteF ?_
          have w' := w.skip ho ok (e3.trans e4) o3 g4
          obtain ⟨us, u1, u2, u3⟩ := w'.at_
          exact ⟨delH G4 p, F4, acc, ⟨w'.x, w'.g, w'.no, w'.ows, ⟨us, u1, u2, by rw [u2.len]; exact Nat.le_refl _⟩, w'.bos⟩, hacc, q⟩
        | true =>
          rw [if_pos rfl] at q
          refine L2.iteT ?_
          split at q
          · rename_i ok0
            have ok1 : vs1.all (notOwn env3) = true := List.all_eq_true.mpr fun i hi => List.all_eq_true.mp ok0 i (hv i hi)
            have nb3 : NoBor σ3 env3 p := fun i di e z => by
              by_cases hm : i ∈ vs
              · have := List.all_eq_true.mp ok0 i hm
                simp [notOwn, e] at this
              · have q1 : (wipe σ3 vs)[i]? = (wipe (wipe σ vs) vs)[i]? := by rw [o3.1]
                have q2 : (wipeE env3 vs)[i]? = (wipeE (wipeE env vs) vs)[i]? := by rw [o3.2]
                rw [wipe_out hm, wipe_out hm, wipe_out hm] at q1
                rw [wipeE_out hm, wipeE_out hm, wipeE_out hm] at q2
                exact w.bos i di (q2.symm.trans e) (q1.symm.trans z)
            refine ⟨G4, F4, env3, g4, ok1, M.wp_mono (M.wpb q) fun es q J1 G5 F5 H5 e5 g5 its1 hz1 => ?_⟩
            have xx := e3.trans (e4.trans e5)
            obtain ⟨us, u1, u2, u3⟩ := w.at_
            have eo : o = .lst us := by rw [u1] at ho; exact (Option.some.inj ho).symm
            have k5 : G5 p = some o := xx.g _ _ upd_same
            have f5 : F5 p = none := xx.n p f2 (by rw [upd_same]; simp)
            have wi : Grow S (delH G5 p) F5 σ3 env3 p H5 acc acc.length (delH G5 p) F5 := Grow.inner g5 k5 f5 eo (u2.mono xx.f) (by rw [(u2.mono xx.f).len]; exact Nat.le_refl _) nb3
            refine ⟨fun j l H => l = es.length - j ∧ j ≤ es.length ∧ ∃ G6 F6 acc, Grow S (delH G5 p) F5 σ3 env3 p H acc acc.length G6 F6 ∧ acc.length ≤ sizeLine ∧
              (mLc2I vs1 g1 mt1 me env3 (es.drop j) acc).wp (fun acc' => (mLc2L vs vs1 gg mt mi1 g1 mt1 me (wipeE env vs) (ds.drop (i + 1)) acc').wp (fun ys => PostF S G F σ env Q (.lst ys))),
              ⟨es.length, by simp, Nat.zero_le _, _, _, acc, wi, hacc, by rw [List.drop_zero]; exact M.wpb q⟩, ?_⟩
            rintro j l H ⟨rfl, hj, G6, F6, acc6, w6, hacc6, q⟩
            have comp1 : (imComp vs1).P F5 σ3 env3 F6 σ3 env3 := ⟨w6.x.f, fun _ _ => ⟨rfl, rfl⟩⟩
            by_cases hlt1 : j < es.length
            · obtain ⟨o6, ho6, xb6, gb6⟩ := w6.blk vs1 nst.1 nst.2
              have compW1 : (imComp vs1).P F5 σ3 env3 F6 (wipe σ3 vs1) (wipeE env3 vs1) := ⟨w6.x.f, fun j hj => ⟨wipe_out hj, wipeE_out hj⟩⟩
              refine .inr ⟨its1.go j _ _ _ H _ compW1 gb6 hlt1, fun H => ∃ G6 F6 acc, Grow S (delH G5 p) F5 σ3 env3 p H acc acc.length G6 F6 ∧ acc.length ≤ sizeLine ∧
                (mLc2I vs1 g1 mt1 me env3 (es.drop (j + 1)) acc).wp (fun acc' => (mLc2L vs vs1 gg mt mi1 g1 mt1 me (wipeE env vs) (ds.drop (i + 1)) acc').wp (fun ys => PostF S G F σ env Q (.lst ys))),
                fun H' h => ⟨es.length - (j + 1), by omega, rfl, hlt1, h⟩, fun x H' y => ?_⟩
              obtain ⟨G7, F7, e7, g7, r7⟩ := its1.yld j _ _ _ H _ x H' es[j] compW1 gb6 (by simp [hlt1]) y
              rw [List.drop_eq_getElem_cons hlt1] at q
              refine ⟨G7, F7, wipeE env3 vs1, es[j], g7, r7, M.wp_mono (M.wpb q) fun env8 q σ8 o8 g8 => ⟨?_, G7, F7, env8, g8, M.wp_mono (M.wpb q) fun k q G9 F9 H9 e9 g9 => ?_⟩⟩
              · rw [o8.1, wipe_idem]
              · cases k with
                | false =>
                  rw [if_neg (by decide)] at q
                  refine L2.iteF ?_
                  have w' := w6.skip ho6 ok1 (e7.trans e9) o8 g9
                  obtain ⟨us', v1, v2, v3⟩ := w'.at_
                  exact ⟨delH G9 p, F9, acc6, ⟨w'.x, w'.g, w'.no, w'.ows, ⟨us', v1, v2, by rw [v2.len]; exact Nat.le_refl _⟩, w'.bos⟩, hacc6, q⟩
                | true =>
                  rw [if_pos rfl] at q
                  refine L2.iteT ?_
                  refine ⟨G9, F9, env8, g9, M.wp_mono (M.wpb q) fun yd q u G10 F10 H10 e10 g10 r10 => ?_⟩
                  split at q
                  · rename_i hsz
                    obtain ⟨us', hus, hul, w'⟩ := w6.next ho6 ok1 (e7.trans (e9.trans e10)) o8 g10 r10
                    refine ⟨us', hus, by omega, delH G10 p, F10, acc6 ++ [yd], ?_, by rw [List.length_append, List.length_singleton]; omega, q⟩
                    rw [List.length_append, List.length_singleton]
                    exact w'
                  · exact q.elim
            · have ej : j = es.length := by omega
              subst ej
              rw [List.drop_length] at q
              exact .inl ⟨its1.stop _ G6 F6 σ3 H env3 comp1 w6.g (Nat.le_refl _), G6, F6, acc6, w.outer ho ok xx o3 w6, hacc6, q⟩
          · exact q.elim
    · have e : i = ds.length := by omega
      subst e
      rw [List.drop_length] at q
      obtain ⟨us, h1, h2, h3⟩ := w.at_
      refine .inl ⟨its.stop _ G2 F2 σ H env comp w.g (Nat.le_refl _), ?_⟩
      have q' : PostF S G F σ env Q (.lst acc) := q
      exact q' p G2 F2 H (e1.trans w.x) w.g ⟨w.no, nst.1, nst.2, w.ows, us, h1, h2, by omega⟩
  · exact q.elim
theorem qlc2 (own : List (Str × Nat)) (vs1 : List Nat) {tg iter tg1 iter1 : Expr} {ifs ifs1 : List Expr} {scope : Scope} {mi mi1 : DI} {gg g1 : DG} {mt mt1 : DT} {me : DE} (hN : X.N.Nodup) (hi : QI (imComp (own.map (·.2))) S X tg iter mi) (ok : BlkOk X.N X.env.scope scope own)
    (hg : ∀ (s : Shared) (H : Hp) (C : Addr) (cl : List (Str × Addr)) (fp : List Addr), QG S (own.map (·.2)) (X.blk s H scope (compEnvC scope cl C X.env) fp) tg gg) (ht : ∀ (s : Shared) (H : Hp) (C : Addr) (cl : List (Str × Addr)) (fp : List Addr), QTs S (X.blk s H scope (compEnvC scope cl C X.env) fp) ifs mt)
    (hi1 : ∀ (s : Shared) (H : Hp) (C : Addr) (cl : List (Str × Addr)) (fp : List Addr), QI (imComp vs1) S (X.blk s H scope (compEnvC scope cl C X.env) fp) tg1 iter1 mi1)
    (hg1 : ∀ (s : Shared) (H : Hp) (C : Addr) (cl : List (Str × Addr)) (fp : List Addr), QG S vs1 (X.blk s H scope (compEnvC scope cl C X.env) fp) tg1 g1) (ht1 : ∀ (s : Shared) (H : Hp) (C : Addr) (cl : List (Str × Addr)) (fp : List Addr), QTs S (X.blk s H scope (compEnvC scope cl C X.env) fp) ifs1 mt1)
    (he : ∀ (s : Shared) (H : Hp) (C : Addr) (cl : List (Str × Addr)) (fp : List Addr), QE S (X.blk s H scope (compEnvC scope cl C X.env) fp) e me) (hv : ∀ i ∈ vs1, i ∈ own.map (·.2) := by decide) (hc : X.calm = true := by rfl) (hs : ∀ x, foldedSetIterable iter X.env x = pure x := by intro _; rfl)
    (hs1 : ∀ env x, foldedSetIterable iter1 env x = pure x := by intro _ _; rfl) :
    QF S X (.ListComp e [⟨tg, iter, ifs, 0⟩, ⟨tg1, iter1, ifs1, 0⟩] scope pos) (mLc2 (own.map (·.2)) vs1 mi gg mt mi1 g1 mt1 me) :=
  pe_weak (pe_lc2 hc hN hi ok hv hg ht hi1 hg1 ht1 he hs hs1) fun σ H Q ⟨G, F, env, g, q⟩ => lc2_read hv g q
theorem mLc2_lst {vs vs1 : List Nat} {mi mi1 : DI} {gg g1 : DG} {mt mt1 : DT} {me : DE} {P : D → Prop} (q : (mLc2 vs vs1 mi gg mt mi1 g1 mt1 me env).wp P) : (mLc2 vs vs1 mi gg mt mi1 g1 mt1 me env).wp fun d => ∃ xs, d = .lst xs ∧ P d := by
  unfold mLc2 at q ⊢
  split at q
  · rename_i h
    rw [if_pos h]
    exact M.wp_bind.mpr (M.wp_mono (M.wpb q) fun ds q => M.wp_bind.mpr (M.wp_mono (M.wpb q) fun ys q => ⟨ys, rfl, q⟩))
  · exact q.elim
theorem qsetLc2V (i : Nat) (own : List (Str × Nat)) (vs1 : List Nat) {y : Str} {py : Pos} {tg iter tg1 iter1 : Expr} {ifs ifs1 : List Expr} {scope : Scope} {mi mi1 : DI} {gg g1 : DG} {mt mt1 : DT} {me : DE} (hN : X.N.Nodup) (hi : QI (imComp (own.map (·.2))) S X tg iter mi) (ok : BlkOk X.N X.env.scope scope own)
    (hg : ∀ (s : Shared) (H : Hp) (C : Addr) (cl : List (Str × Addr)) (fp : List Addr), QG S (own.map (·.2)) (X.blk s H scope (compEnvC scope cl C X.env) fp) tg gg) (ht : ∀ (s : Shared) (H : Hp) (C : Addr) (cl : List (Str × Addr)) (fp : List Addr), QTs S (X.blk s H scope (compEnvC scope cl C X.env) fp) ifs mt)
    (hi1 : ∀ (s : Shared) (H : Hp) (C : Addr) (cl : List (Str × Addr)) (fp : List Addr), QI (imComp vs1) S (X.blk s H scope (compEnvC scope cl C X.env) fp) tg1 iter1 mi1)
    (hg1 : ∀ (s : Shared) (H : Hp) (C : Addr) (cl : List (Str × Addr)) (fp : List Addr), QG S vs1 (X.blk s H scope (compEnvC scope cl C X.env) fp) tg1 g1) (ht1 : ∀ (s : Shared) (H : Hp) (C : Addr) (cl : List (Str × Addr)) (fp : List Addr), QTs S (X.blk s H scope (compEnvC scope cl C X.env) fp) ifs1 mt1)
    (he : ∀ (s : Shared) (H : Hp) (C : Addr) (cl : List (Str × Addr)) (fp : List Addr), QE S (X.blk s H scope (compEnvC scope cl C X.env) fp) e me)
    (hsw : swapsWith (.ListComp e [⟨tg, iter, ifs, 0⟩, ⟨tg1, iter1, ifs1, 0⟩] scope pos) (some (.Name y py)) pp.line X.env = pure true) (hv : ∀ i ∈ vs1, i ∈ own.map (·.2) := by decide)
    (hy : X.N[i]? = some y := by rfl) (hyl : X.env.scope.names.lookup y = some .local := by rfl) (hc : X.calm = true := by rfl) (hs : ∀ x, foldedSetIterable iter X.env x = pure x := by intro _; rfl)
    (hs1 : ∀ env x, foldedSetIterable iter1 env x = pure x := by intro _ _; rfl) :
    QS S X (.Assign [.Name y py] (.ListComp e [⟨tg, iter, ifs, 0⟩, ⟨tg1, iter1, ifs1, 0⟩] scope pos) pp) (mSetV i (mLc2 (own.map (·.2)) vs1 mi gg mt mi1 g1 mt1 me)) :=
  ps_weak (ps_setLc2 hc hN hy hyl hsw hi ok hv hg ht hi1 hg1 ht1 he hs hs1) fun D' σ H ⟨G, F, env, g, q⟩ => by
    show tLc2 _ _ _ _ _ _ _ _ _ σ H fun x H1 => gName i x σ H1 D'.nx
    refine lc2_read hv g (M.wp_mono (mLc2_lst (M.wpb q)) fun d q => ?_)
    obtain ⟨xs, rfl, q⟩ := q
    exact postF_set q
/-! ### three names at once -/
theorem qpar3 (i j l : Nat) {x y z : Str} {px py pz pt : Pos} {kt k2 pt2} (hN : X.N.Nodup) (ha : QA S X [a, b, c] ms) (hi : X.N[i]? = some x := by rfl) (hj : X.N[j]? = some y := by rfl) (hl : X.N[l]? = some z := by rfl) (hij : i ≠ j := by decide) (hil : i ≠ l := by decide) (hjl : j ≠ l := by decide)
    (hx : X.env.scope.names.lookup x = some .local := by rfl) (hy : X.env.scope.names.lookup y = some .local := by rfl) (hz : X.env.scope.names.lookup z = some .local := by rfl) (hc : X.calm = true := by rfl)
    (hw : swappedStores [.Tuple [.Name x px, .Name y py, .Name z pz] kt pt] (.Tuple [a, b, c] k2 pt2) X.env = pure (some [x, y, z]) := by rfl)
    (hs : swapsWithSole [.Tuple [.Name x px, .Name y py, .Name z pz] kt pt] (.Tuple [a, b, c] k2 pt2) pos.line X.env = pure false := by rfl) :
    QS S X (.Assign [.Tuple [.Name x px, .Name y py, .Name z pz] kt pt] (.Tuple [a, b, c] k2 pt2) pos) (mPar3 i j l ms) :=
  ps_weak (ps_par3 hc hN hi hj hl hij hil hjl hx hy hz ha hw hs) fun D' σ H ⟨G, F, env, g, q⟩ => ⟨G, F, env, g, M.wp_mono (M.wpb q) fun ds q vs G1 F1 H1 e1 g1 r1 => by
    cases r1 with
    | nil => exact q.elim
    | cons r t =>
      cases t with
      | nil => exact q.elim
      | cons r' t =>
        cases t with
        | nil => exact q.elim
        | cons r'' t =>
          cases t with
          | nil => exact ⟨_, _, _, rfl, q _ G1 F1 H1 e1 (((g1.setVal r).setVal r').setVal r'')⟩
          | cons _ _ => exact q.elim⟩
end
end DL

set_option Elab.async false
set_option linter.all false
set_option maxRecDepth 100000
/-! DL10: stores into own lists and dicts, more of what is built in. -/
namespace DL
open PySem PySem.Spec L2
open PyProof.Rows hiding St

section
variable {S : SA} {X : Cx} {G F G' F' H H' : Hp} {σ : L2.St} {env : DEnv} {d : D} {v : V} {p : Addr} {Q : VK} {m ma mb mc mk mv : DE} {t ta tb : DT} {ms : DA} {a b c e : Expr} {es rest : List Expr} {pos pp : Pos} {x : Str} {i : Nat}
/-! ### // and * -/
theorem o_fdiv : OpD S X (binaryOp .FloorDiv) dFdiv := opD_I op_fdiv fun i j h => by
  simp only [Bool.and_eq_true, decide_eq_true_eq] at h
  exact ⟨h.1, by have := h.2; omega⟩
def dRep : D → D → M D
  | .lst xs, .int k => if decide (-(2 ^ 63) ≤ k) && (decide (k < 2 ^ 63) && decide (xs.length * k.toNat ≤ sizeLine)) then .ret (.lst (List.replicate k.toNat xs).flatten) else .fail
  | _, _ => .fail
theorem rep_rpl {ds : List D} {vs : List V} (r : RpL S F ds vs) : ∀ n : Nat, RpL S F (List.replicate n ds).flatten (List.replicate n vs).flatten
  | 0 => .nil
  | n + 1 => by
    rw [List.replicate_succ, List.replicate_succ, List.flatten_cons, List.flatten_cons]
    exact r.append (rep_rpl r n)
theorem rep_len {α : Type} (l : List α) : ∀ n : Nat, (List.replicate n l).flatten.length = n * l.length
  | 0 => by simp
  | n + 1 => by rw [List.replicate_succ, List.flatten_cons, List.length_append, rep_len l n, Nat.succ_mul]; omega
theorem o_rep : OpF S X (binaryOp .Mult) dRep := ⟨_, op_rep, fun G F σ H env x y d e Q g r1 r2 q => by
  cases d with
  | lst xs =>
    cases e with
    | int k =>
      simp only [dRep] at q
      split at q
      · rename_i hc
        simp only [Bool.and_eq_true, decide_eq_true_eq] at hc
        obtain ⟨p, vs, rfl, h1, l1, z1⟩ := r1.lst g
        obtain rfl := r2.int g
        have n1 := l1.len
        refine ⟨p, k, vs, rfl, rfl, h1, hc.1, hc.2.1, by rw [← n1]; exact hc.2.2, fun t ht => PostF.lst q g ht (rep_rpl l1 _) ?_⟩
        rw [rep_len, ← n1, Nat.mul_comm]
        exact hc.2.2
      · exact q.elim
    | _ => exact q.elim
  | _ => exact q.elim⟩
/-! ### an own list: extend, xs[k] = v -/
theorem wp_det {α β : Type} {mm : M α} {f : α → M β} {P : β → Prop} {R : Prop} (h1 : mm.wp fun a => (f a).wp P) (h2 : ∀ a, (f a).wp P → R) : R := by
  induction mm with
  | ret a => exact h2 a h1
  | fail => exact h1.elim
  | ask k g ih => exact ih 0 (h1.2 0 (Int.le_refl _) h1.1.1)
def mExtend (i : Nat) (m : DE) : DS := fun env => m env >>= fun d => match env[i]?, d with
  | some (some (.own (.lst xs))), .lst ys => if xs.length + ys.length ≤ sizeLine then .ret (.nx, env.set i (some (.own (.lst (xs ++ ys))))) else .fail
  | _, _ => .fail
theorem qextend (i : Nat) {x : Str} {np apos cpos epos : Pos} (ha : QB S X e m) (hN : X.N[i]? = some x := by rfl) (hv : Vis X.env.scope x := by first | exact Or.inl rfl | exact Or.inr (Or.inl rfl) | exact Or.inr (Or.inr rfl)) (hd : (x == ("__debug__" : Str)) = false := by decide)
    (hcd : (x == ("__classdict__" : Str)) = false := by decide) (n1 : starEach [e] X.env = (false, eval e X.env) :: starEach [] X.env := by rfl)
    (hbase : attributeBase (.Name x np) "extend" X.env (eval (.Name x np) X.env) = eval (.Name x np) X.env := by rfl)
    (hfew : ((backTo cpos (starEach [e] X.env)).all (fun x => !x.1) && (backToKw cpos (keywordEach [] X.env)).all (fun x => x.1.isSome)
      && decide ([e].length + ([] : List Keyword).length + (if ([] : List Keyword).isEmpty then 0 else 1) < 30)) = true := by rfl)
    (hline : (apos.endLine == cpos.line) = true := by rfl) (hplain : (backTo cpos (starEach [] X.env)).any (·.1) = false := by rfl) (hs : swapsWith (.Call (.Attribute (.Name x np) "extend" apos) [e] [] cpos) none epos.line X.env = pure false := by rfl) :
    QS S X (.Expr (.Call (.Attribute (.Name x np) "extend" apos) [e] [] cpos) epos) (mExtend i m) :=
  ps_weak (ps_expr (pe_bm PySem.F.plainAttrs_list PySem.F.slot_list_extend PySem.F.type_list_extend mt_extend (pe_var hN hv hd hcd) (qab_cons ha qab_nil n1) hbase hfew hline n1 hplain) hs) fun D' σ H ⟨G, F, env, g, q⟩ => by
    obtain ⟨xs, e⟩ : ∃ xs, env[i]? = some (some (.own (.lst xs))) := wp_det (M.wpb q) fun a h => by
      split at h
      · rename_i xs ys e; exact ⟨xs, e⟩
      · exact h.elim
    obtain ⟨a, ha', _, _, _, vs, hv', _⟩ := g.slot i _ e
    refine ⟨.ref a, ha', .inl ⟨rfl, vs, .of hv'⟩, G, F, env, g, ?_⟩
    have q' := M.wpb q
    rw [e] at q'
    show M.wp (M.bind (m env) fun x => M.bind (M.ret []) fun xs => M.ret (x :: xs)) _
    rw [M.wp_bind]
    refine M.wp_mono q' fun d q us G1 F1 H1 e1 g1 r1 => ?_
    split at q
    · rename_i _ _ xs' ys q0
      cases q0
      split at q
      · cases r1 with
        | cons r t =>
          cases t
          obtain ⟨p2, zs, rfl, z1, z2, z3⟩ := r.lst g1
          obtain ⟨b, b1, b2, b3, b4, ws, b5, b6, b7⟩ := g1.slot i _ e
          rw [ha'] at b1
          cases b1
          have n := b6.len
          have n2 := z2.len
          exact ⟨a, p2, ws, zs, rfl, rfl, b5, z1, by omega, q _ G1 F1 _ e1 (g1.ownSet e ha' (b6.append z2) (by rw [List.length_append]; omega))⟩
      · exact q.elim
    · exact q.elim
def mPutL (i : Nat) (mk mv : DE) : DS := fun env => mv env >>= fun d => mk env >>= fun k => match env[i]?, k with
  | some (some (.own (.lst xs))), .int j => match ixN xs.length j with
    | some n => .ret (.nx, env.set i (some (.own (.lst (xs.set n d)))))
    | none => .fail
  | _, _ => .fail
theorem qputL (i : Nat) {x : Str} {np tpos : Pos} (hk : QB S X b mk) (hv' : QE S X e mv) (hN : X.N[i]? = some x := by rfl) (hv : Vis X.env.scope x := by first | exact Or.inl rfl | exact Or.inr (Or.inl rfl) | exact Or.inr (Or.inr rfl)) (hd : (x == ("__debug__" : Str)) = false := by decide)
    (hcd : (x == ("__classdict__" : Str)) = false := by decide)
    (ha : ∀ v, assign (.Subscript (.Name x np) b tpos) X.env v = (do
      let ov ← holding [v] (eval (.Name x np) X.env)
      let iv ← holding [v, ov] (eval b X.env)
      standAt tpos
      holding [v, ov, iv] (setItem ov iv v)
      release [v, ov, iv] []) := by intro _; rfl)
    (hs : swapsWithSole [.Subscript (.Name x np) b tpos] e pos.line X.env = pure false := by rfl) (hw : swappedStores [.Subscript (.Name x np) b tpos] e X.env = pure none := by rfl)
    (h1 : (assignEach [.Subscript (.Name x np) b tpos] X.env).map (·.2) = [assign (.Subscript (.Name x np) b tpos) X.env] := by rfl) : QS S X (.Assign [.Subscript (.Name x np) b tpos] e pos) (mPutL i mk mv) :=
  ps_weak (ps_asg hv' (pg_sub (pe_var hN hv hd hcd) hk set_list ha) hs hw h1) fun D' σ H ⟨G, F, env, g, q⟩ => by
    refine ⟨G, F, env, g, M.wp_mono (M.wpb q) fun d q v G1 F1 H1 e1 g1 r1 => ?_⟩
    obtain ⟨xs, e⟩ : ∃ xs, env[i]? = some (some (.own (.lst xs))) := wp_det (M.wpb q) fun a h => by
      split at h
      · rename_i xs j e; exact ⟨xs, e⟩
      · exact h.elim
    obtain ⟨a, ha', _, _, _, vs, hv', _⟩ := g1.slot i _ e
    have q' := M.wpb q
    rw [e] at q'
    refine ⟨.ref a, ha', G1, F1, env, g1, M.wp_mono q' fun k q u G2 F2 H2 e2 g2 r2 => ?_⟩
    split at q
    · rename_i _ _ xs' j q0
      cases q0
      split at q
      · rename_i n hn
        obtain rfl := r2.int g2
        obtain ⟨b, b1, b2, b3, b4, ws, b5, b6, b7⟩ := g2.slot i _ e
        rw [ha'] at b1
        cases b1
        exact ⟨a, ws, j, n, rfl, rfl, b5, by rw [← b6.len]; exact hn, q _ G2 F2 _ (e1.trans e2) (g2.ownSet e ha' (RpL.set (r1.mono e2.f) n b6) (by rw [List.length_set]; exact b7))⟩
      · exact q.elim
    · exact q.elim
/-! ### dicts: new ones, d[k] = v, d.get(k, x) -/
def mNewK : DE := fun _ => .ret (.dct false [])
def mNewT : DE := fun _ => .ret (.dct true [])
theorem qnewK : QF S X (.Dict [] [] pos) mNewK := pe_weak pe_dnewK fun σ H Q ⟨G, F, env, g, q⟩ p hp =>
  (show PostF S G F σ env Q (.dct false []) from q) p G F _ (Ext.refl _ _) (g.new hp _) ⟨g.no hp, (g.stNe hp).1, (g.stNe hp).2, g.ownNe hp, [], upd_same, .nil, Nat.zero_le _⟩
theorem qnewT : QF S X (.Dict [] [] pos) mNewT := pe_weak pe_dnewT fun σ H Q ⟨G, F, env, g, q⟩ p hp =>
  (show PostF S G F σ env Q (.dct true []) from q) p G F _ (Ext.refl _ _) (g.new hp _) ⟨g.no hp, (g.stNe hp).1, (g.stNe hp).2, g.ownNe hp, [], upd_same, .nil, Nat.zero_le _⟩
/-- an own object at name i is another one -/
theorem Good.ownPut {u : HO} {d' : D} (g : Good S G F σ H env) (e : env[i]? = some (some (.own d))) (hp : σ[i]? = some (some (.ref p))) (o : OwnR S F (upd H p u) p d') : Good S G F σ (upd H p u) (env.set i (some (.own d'))) := by
  obtain ⟨a, h1, h2, h3, h4, h5⟩ := g.slot i _ e
  rw [hp] at h1
  cases h1
  have hi : i < env.length := (List.getElem?_eq_some_iff.mp e).1
  refine ⟨fun b u q => ?_, g.fg, ⟨g.st.1, ?_⟩, g.ns, g.nc, by rw [List.length_set]; exact g.len, fun j sl q => ?_, fun j k dj dk b e1 e2 e3 e4 => ?_⟩
  · have nb : b ≠ p := fun z => by rw [z, h2] at q; cases q
    rw [upd_ne nb]; exact g.kp b u q
  · obtain ⟨_, n, cs, q1, q2, q3⟩ := g.st
    exact ⟨n, cs, by rw [upd_ne h3.symm]; exact q1, by rw [upd_ne h4.symm]; exact q2, q3⟩
  · by_cases hij : i = j
    · subst hij
      rw [List.getElem?_set_self hi] at q
      cases q
      exact ⟨p, hp, h2, h3, h4, o⟩
    · rw [List.getElem?_set_ne hij] at q
      have w := g.slot j sl q
      cases sl with
      | val d' => exact w
      | bor d' => exact w
      | own d' =>
        obtain ⟨b, w1, w2, w3, w4, w5⟩ := w
        have nb : b ≠ p := by
          rintro rfl
          exact hij (g.dist i j _ _ b e q hp w1)
        exact ⟨b, w1, w2, w3, w4, ownR_mono (Sub.refl _) (fun o z => by rw [upd_ne nb]; exact z) w5⟩
  · have fix : ∀ (l : Nat) (dl : D), (env.set i (some (.own d')))[l]? = some (some (.own dl)) → ∃ dl', env[l]? = some (some (.own dl')) := fun l dl q => by
      by_cases hl : i = l
      · subst hl; exact ⟨d, e⟩
      · rw [List.getElem?_set_ne hl] at q; exact ⟨dl, q⟩
    obtain ⟨_, f1⟩ := fix j dj e1
    obtain ⟨_, f2⟩ := fix k dk e2
    exact g.dist j k _ _ b f1 f2 e3 e4
def mPutD (i : Nat) (mk mv : DE) : DS := fun env => mv env >>= fun d => mk env >>= fun k => match env[i]? with
  | some (some (.own (.dct t kvs))) => if keyOk t k && decide (kvs.length < sizeLine) then .ret (.nx, env.set i (some (.own (.dct t (putD kvs k d))))) else .fail
  | _ => .fail
theorem qputD (i : Nat) {x : Str} {np tpos : Pos} (hu : X.A.units + 1 < cLine) (hk : QB S X b mk) (hv' : QE S X e mv) (hN : X.N[i]? = some x := by rfl) (hv : Vis X.env.scope x := by first | exact Or.inl rfl | exact Or.inr (Or.inl rfl) | exact Or.inr (Or.inr rfl)) (hd : (x == ("__debug__" : Str)) = false := by decide)
    (hcd : (x == ("__classdict__" : Str)) = false := by decide) (hs : swapsWith e (some (.Subscript (.Name x np) b tpos)) pos.line X.env = pure false := by rfl) : QS S X (.Assign [.Subscript (.Name x np) b tpos] e pos) (mPutD i mk mv) :=
  ps_weak (ps_dput hu (pe_var hN hv hd hcd) hk hv' hs) fun D' σ H ⟨G, F, env, g, q⟩ => by
    refine ⟨G, F, env, g, M.wp_mono (M.wpb q) fun d q v G1 F1 H1 e1 g1 r1 => ?_⟩
    obtain ⟨t, kvs, e⟩ : ∃ t kvs, env[i]? = some (some (.own (.dct t kvs))) := wp_det (M.wpb q) fun a h => by
      split at h
      · rename_i t kvs e; exact ⟨t, kvs, e⟩
      · exact h.elim
    obtain ⟨a, ha', _⟩ := g1.slot i _ e
    have q' := M.wpb q
    rw [e] at q'
    refine ⟨.ref a, ha', G1, F1, env, g1, M.wp_mono q' fun k q u G2 F2 H2 e2 g2 r2 => ?_⟩
    simp only at q
    split at q
    · rename_i hc
      rw [Bool.and_eq_true, decide_eq_true_eq] at hc
      obtain ⟨b, b1, b2, b3, b4, ow⟩ := g2.slot i _ e
      rw [ha'] at b1
      cases b1
      have r2 := r2.rp g2 (keyOk_mut hc.1)
      cases t with
      | false =>
        obtain ⟨es, o1, o2, o3⟩ := ow
        obtain ⟨kk, k1, rfl⟩ := key_of_isKey hc.1 r2
        have n := o2.len
        have nz : es.length < sizeLine := by omega
        refine ⟨a, _, rfl, .inl ⟨es, kk, o1, rfl, nz, rfl⟩, q _ G2 F2 _ (e1.trans e2) (g2.ownPut e ha' ⟨_, upd_same, o2.put k1 (r1.mono e2.f), ?_⟩)⟩
        have := putK_le es kk v
        omega
      | true =>
        cases k with
        | tup ds =>
          cases r2 with
          | tup f1 f2 f3 =>
            obtain ⟨es, o1, o2, o3⟩ := ow
            obtain ⟨ks, k1, rfl⟩ := keys_of_all hc.1 f2
            have n := o2.len
            have nz : es.length < sizeLine := by omega
            refine ⟨a, _, rfl, .inr ⟨es, ks, _, o1, rfl, g2.fh _ _ f1, nz, rfl⟩, q _ G2 F2 _ (e1.trans e2) (g2.ownPut e ha' ⟨_, upd_same, o2.put k1 (r1.mono e2.f), ?_⟩)⟩
            have := putK_le es ks v
            omega
        | _ => cases hc.1
    · exact q.elim
def mGet2 (mo mk mx : DE) : DE := fun env => mo env >>= fun o => match o with
  | .dct t kvs => mk env >>= fun k => mx env >>= fun x => if keyOk t k then .ret ((valD kvs k).getD x) else .fail
  | _ => .fail
theorem isD_of {t : Bool} {kvs : List (D × D)} (g : Good S G F σ H env) (r1 : RdB S F σ env (.dct t kvs) v) : ∃ a, v = .ref a ∧ IsD H a := by
  cases t with
  | false => obtain ⟨p, es, rfl, h1, _⟩ := r1.dctK g; exact ⟨p, rfl, .inl ⟨es, h1⟩⟩
  | true => obtain ⟨p, es, rfl, h1, _⟩ := r1.dctT g; exact ⟨p, rfl, .inr ⟨es, h1⟩⟩
theorem qget2 {o : Expr} {apos cpos : Pos} (hu : X.A.units + 1 < cLine) (ho : QB S X o m) (hk : QB S X a ma) (hx : QE S X b mb) (hbase : attributeBase o "get" X.env (eval o X.env) = eval o X.env := by rfl)
    (hfew : ((backTo cpos (starEach [a, b] X.env)).all (fun x => !x.1) && (backToKw cpos (keywordEach [] X.env)).all (fun x => x.1.isSome)
      && decide (([a, b] : List Expr).length + ([] : List Keyword).length + (if ([] : List Keyword).isEmpty then 0 else 1) < 30)) = true := by rfl)
    (hline : (apos.endLine == cpos.line) = true := by rfl) (htr : backTo cpos (starEach [a, b] X.env) = [(false, eval a X.env), (false, eval b X.env)] := by rfl) : QE S X (.Call (.Attribute o "get" apos) [a, b] [] cpos) (mGet2 m ma mb) :=
  pe_weak (pe_dget2 hu ho hk hx ⟨hbase, hfew, hline, htr⟩) fun σ H Q ⟨G, F, env, g, q⟩ => ⟨G, F, env, g, M.wp_mono (M.wpb q) fun d q v G1 F1 H1 e1 g1 r1 => by
    cases d with
    | dct t kvs =>
      obtain ⟨a, rfl, hd⟩ := isD_of g1 r1
      refine ⟨a, rfl, hd, G1, F1, env, g1, M.wp_mono (M.wpb q) fun k q u G2 F2 H2 e2 g2 r2 => ⟨G2, F2, env, g2, M.wp_mono (M.wpb q) fun x q z G3 F3 H3 e3 g3 r3 => ?_⟩⟩
      split at q
      · obtain ⟨a', ov, ea, dg, _, ro⟩ := dget_of g3 (r1.mono (e2.f.trans e3.f)) (r2.mono e3.f) (by assumption)
        cases ea
        refine ⟨ov, dg, (post_shift (e1.trans (e2.trans e3)) q).now g3 ?_⟩
        cases ov with
        | none =>
          cases hh : valD kvs k with
          | none => exact r3
          | some w => rw [hh] at ro; exact ro.elim
        | some w =>
          cases hh : valD kvs k with
          | none => rw [hh] at ro; exact ro.elim
          | some y => rw [hh] at ro; exact ro
      · exact q.elim
    | _ => exact q.elim⟩
/-! ### range with a step, zip -/
def rgD3 (a c : Int) (n : Nat) : List D := (List.range n).map fun i => D.int (a + (i : Nat) * c)
theorem its_rng3 {P : Hp → L2.St → DEnv → Prop} {a c : Int} {n : Nat} : ItsD S (Itc a c n) P (rgD3 a c n) where
  go := fun i G2 F2 σ2 H2 env2 hp g hi => by
    unfold rgD3 at hi
    rw [List.length_map, List.length_range] at hi
    exact hi
  stop := fun i G2 F2 σ2 H2 env2 hp g hi => by
    unfold rgD3 at hi
    rw [List.length_map, List.length_range] at hi
    exact hi
  yld := fun i G2 F2 σ2 H2 env2 v H3 d hp g hd y => by
    obtain ⟨e, ev⟩ := y
    subst e ev
    unfold rgD3 at hd
    rw [List.getElem?_map] at hd
    cases hr : (List.range n)[i]? with
    | none => rw [hr] at hd; cases hd
    | some j =>
      rw [hr] at hd
      obtain ⟨hl, e⟩ := List.getElem?_eq_some_iff.mp hr
      rw [List.getElem_range] at e
      subst e
      cases hd
      exact ⟨G2, F2, Ext.refl _ _, g, .int _⟩
/-- only steps by -1 are told -/
def iRg3 (ma mb mc : DE) : DI := fun env => ma env >>= fun x => mb env >>= fun y => mc env >>= fun z => asI x >>= fun i => asI y >>= fun j => asI z >>= fun k => if decide (k = -1) && (rgOk j i) then .ret (rgD3 i (-1) (i - j).toNat) else .fail
theorem qi_rg3 {I : IM} {tg : Expr} (hg : Gl X "range") (hm : X.mg "range" = none) (ha : QB S X a ma) (hb : QB S X b mb) (hc : QB S X c mc) (n1 : starEach [a, b, c] X.env = (false, eval a X.env) :: starEach [b, c] X.env := by rfl) (n2 : starEach [b, c] X.env = (false, eval b X.env) :: starEach [c] X.env := by rfl)
    (n3 : starEach [c] X.env = (false, eval c X.env) :: starEach [] X.env := by rfl) (hpl : (backTo pos (starEach [b, c] X.env)).any (·.1) = false := by rfl) : QI I S X tg (.Call (.Name "range" pp) [a, b, c] [] pos) (iRg3 ma mb mc) :=
  pi_weak (pi_range3 hg hm (pa_cons ha (pa_cons hb (pa_cons hc pa_nil n3) n2) n1) n1 hpl) fun σ H R ⟨G, F, env, g, ok, q⟩ => ⟨G, F, env, g, M.wp_mono (M.wpb q) fun d q v G1 F1 H1 e1 g1 r1 => ⟨G1, F1, env, g1, M.wp_mono (M.wpb q) fun d2 q v2 G2 F2 H2 e2 g2 r2 => ⟨G2, F2, env, g2, M.wp_mono (M.wpb q) fun d3 q v3 G3 F3 H3 e3 g3 r3 => by
    obtain ⟨i, ei, q1⟩ := asI_wp (M.wpb q)
    obtain ⟨j, ej, q2⟩ := asI_wp (M.wpb q1)
    obtain ⟨k, ek, q3⟩ := asI_wp (M.wpb q2)
    subst ei ej ek
    obtain rfl := r1.int g1
    obtain rfl := r2.int g2
    obtain rfl := r3.int g3
    split at q3
    · rename_i hc
      rw [Bool.and_eq_true, decide_eq_true_eq] at hc
      obtain ⟨rfl, hc⟩ := hc
      obtain ⟨b1, b2, b3, b4, b5⟩ := rgOk_iff hc
      refine ⟨i, j, -1, _, rfl, RgC.neg b3 b4 b1 b2, q3 _ G3 F3 H3 (e1.trans (e2.trans e3)) g3 its_rng3 ?_⟩
      unfold rgD3
      rw [List.length_map, List.length_range, sizeLine_eq]
      exact b5
    · exact q3.elim⟩⟩⟩
def zipD : List D → List D → List D
  | a :: as, b :: bs => .tup [a, b] :: zipD as bs
  | _, _ => []
theorem zipD_len : ∀ as bs : List D, (zipD as bs).length = min as.length bs.length
  | [], _ => by simp [zipD]
  | _ :: _, [] => by simp [zipD]
  | a :: as, b :: bs => by simp [zipD, zipD_len as bs]
theorem zipD_get : ∀ (as bs : List D) (i : Nat) (x : D), (zipD as bs)[i]? = some x → ∃ a b, as[i]? = some a ∧ bs[i]? = some b ∧ x = .tup [a, b]
  | [], _, i, x, h => by simp [zipD] at h
  | _ :: _, [], i, x, h => by simp [zipD] at h
  | a :: as, b :: bs, 0, x, h => by simp [zipD] at h; exact ⟨a, b, rfl, rfl, h.symm⟩
  | a :: as, b :: bs, i + 1, x, h => by
    obtain ⟨u, w, h1, h2, h3⟩ := zipD_get as bs i x (by simpa [zipD] using h)
    exact ⟨u, w, by simpa using h1, by simpa using h2, h3⟩
theorem its_zip {I : IM} (O : IMOk I) {K : PySem.W.Frag} {xs ys : List D} {a b : Addr} (ok : I.ok env = true) (r : I.rd S F' σ env (.lst xs) (.ref a)) (r' : I.rd S F' σ env (.lst ys) (.ref b)) : ItsD S (Itz K a b) (I.P F' σ env) (zipD xs ys) where
  go := fun i G2 F2 σ2 H2 env2 hp g hi => by
    obtain ⟨p, vs, e, h1, l1, _⟩ := (O.toB (O.keep ok hp r)).lst g
    cases e
    obtain ⟨p', us, e, h2, l2, _⟩ := (O.toB (O.keep ok hp r')).lst g
    cases e
    rw [zipD_len, l1.len, l2.len] at hi
    have i1 : i < vs.length := by omega
    have i2 : i < us.length := by omega
    exact ⟨vs, us, vs[i], us[i], .of h1, .of h2, by simp [i1], by simp [i2]⟩
  stop := fun i G2 F2 σ2 H2 env2 hp g hi => by
    obtain ⟨p, vs, e, h1, l1, _⟩ := (O.toB (O.keep ok hp r)).lst g
    cases e
    obtain ⟨p', us, e, h2, l2, _⟩ := (O.toB (O.keep ok hp r')).lst g
    cases e
    rw [zipD_len, l1.len, l2.len] at hi
    exact ⟨vs, us, .of h1, .of h2, by omega⟩
  yld := fun i G2 F2 σ2 H2 env2 x H3 d hp g hd y => by
    obtain ⟨p, vs, e, h1, l1, _⟩ := (O.toB (O.keep ok hp r)).lst g
    cases e
    obtain ⟨p', us, e, h2, l2, _⟩ := (O.toB (O.keep ok hp r')).lst g
    cases e
    obtain ⟨T, y1, y2, rfl, nT, rfl, f1, f2⟩ := y
    obtain ⟨d1, d2, hd1, hd2, rfl⟩ := zipD_get xs ys i d hd
    obtain ⟨v1, hv1, rv1⟩ := l1.get hd1
    obtain ⟨v2, hv2, rv2⟩ := l2.get hd2
    have e1 := f1 vs (.of h1)
    have e2 := f2 us (.of h2)
    rw [hv1] at e1
    rw [hv2] at e2
    cases e1
    cases e2
    obtain ⟨x3, g3⟩ := g.newFrz nT (.tup [y1, y2])
    exact ⟨_, _, x3, g3, .tup upd_same (.cons (rv1.mono x3.f) (.cons (rv2.mono x3.f) .nil)) (by show 2 ≤ sizeLine; decide)⟩
def iZipD (m m' : DE) : DI := fun env => m env >>= fun x => m' env >>= fun y => match x, y with
  | .lst xs, .lst ys => .ret (zipD xs ys)
  | _, _ => .fail
theorem qi_zip {I : IM} (O : IMOk I) (O2 : ∀ {S : SA} {F F2 : Hp} {σ : L2.St} {env : DEnv} {d : D} {v : V}, Sub F F2 → I.rd S F σ env d v → I.rd S F2 σ env d v) {tpos : Pos} {elts : List Expr} {kk : Nat} (hg : Gl X "zip") (hm : X.mg "zip" = none) (ha : QX I S X a ma) (hb : QX I S X b mb)
    (n1 : starEach [a, b] X.env = (false, eval a X.env) :: starEach [b] X.env := by rfl) (n2 : starEach [b] X.env = (false, eval b X.env) :: starEach [] X.env := by rfl) (hpl : (backTo pos (starEach [b] X.env)).any (·.1) = false := by rfl) :
    QI I S X (.Tuple elts kk tpos) (.Call (.Name "zip" pp) [a, b] [] pos) (iZipD ma mb) :=
  pi_weak (pi_zip hg hm (pa_cons ha (pa_cons hb pa_nil n2) n1) n1 hpl) fun σ H R ⟨G, F, env, g, ok, q⟩ => ⟨G, F, env, g, M.wp_mono (M.wpb q) fun d q v G1 F1 H1 e1 g1 r1 => ⟨G1, F1, env, g1, M.wp_mono (M.wpb q) fun d2 q v2 G2 F2 H2 e2 g2 r2 => by
    cases d with
    | lst xs =>
      cases d2 with
      | lst ys =>
        have r1 := O2 e2.f r1
        obtain ⟨p, vs, rfl, h1, l1, z1⟩ := (O.toB r1).lst g2
        obtain ⟨p', us, rfl, h2, l2, z2⟩ := (O.toB r2).lst g2
        exact ⟨p, p', vs, us, rfl, .of h1, .of h2, q _ G2 F2 H2 (e1.trans e2) g2 (its_zip O ok r1 r2) (by rw [zipD_len, l1.len, l2.len]; omega)⟩
      | _ => exact q.elim
    | _ => exact q.elim⟩⟩
end
end DL

set_option Elab.async false
set_option linter.all false
set_option maxRecDepth 100000
/-! DL11: the order of trees that are alike; sorted. -/
namespace DL
open PySem PySem.Spec L2
open PyProof.Rows hiding St

mutual
def D.alk : D → D → Bool
  | .non, d => match d with
    | .non => true
    | _ => false
  | .int _, d => match d with
    | .int _ => true
    | _ => false
  | .str _, d => match d with
    | .str _ => true
    | _ => false
  | .tup xs, d => match d with
    | .tup ys => D.alkL xs ys
    | _ => false
  | .lst xs, d => match d with
    | .lst ys => D.alkL xs ys
    | _ => false
  | .bl _, _ => false
  | .dct _ _, _ => false
  | .dcn _, _ => false
  | .stt, _ => false
def D.alkL : List D → List D → Bool
  | [], _ => true
  | x :: xs, ds => match ds with
    | [] => true
    | y :: ys => D.alk x y && D.alkL xs ys
end
def natsLt : List Nat → List Nat → Bool
  | [], [] => false
  | [], _ :: _ => true
  | _ :: _, [] => false
  | a :: as, b :: bs => decide (a < b) || (decide (a = b) && natsLt as bs)
mutual
def D.lt : D → D → Bool
  | .int a, d => match d with
    | .int b => decide (a < b)
    | _ => false
  | .str a, d => match d with
    | .str b => natsLt a.cps.toList b.cps.toList
    | _ => false
  | .tup xs, d => match d with
    | .tup ys => D.ltL xs ys
    | _ => false
  | .lst xs, d => match d with
    | .lst ys => D.ltL xs ys
    | _ => false
  | .non, _ => false
  | .bl _, _ => false
  | .dct _ _, _ => false
  | .dcn _, _ => false
  | .stt, _ => false
def D.ltL : List D → List D → Bool
  | [], ds => match ds with
    | [] => false
    | _ :: _ => true
  | x :: xs, ds => match ds with
    | [] => false
    | y :: ys => if D.beq x y then D.ltL xs ys else D.lt x y
end
theorem natsLt_eq : ∀ a b : List Nat, natsLt a b = decide (a < b)
  | [], [] => by simp [natsLt]
  | [], b :: bs => by simp [natsLt]
  | a :: as, [] => by simp [natsLt]
  | a :: as, b :: bs => by
    rw [natsLt, natsLt_eq as bs]
    simp only [List.cons_lt_cons_iff]
    by_cases h : a < b
    · simp [h]
    · by_cases e : a = b
      · subst e; simp
      · simp [h, e]
theorem natsLt_tri : ∀ a b : List Nat, natsLt a b = false → natsLt b a = false → a = b
  | [], [], _, _ => rfl
  | [], b :: bs, h, _ => by simp [natsLt] at h
  | a :: as, [], _, h => by simp [natsLt] at h
  | a :: as, b :: bs, h, h' => by
    simp only [natsLt, Bool.or_eq_false_iff, decide_eq_false_iff_not] at h h'
    have e : a = b := by omega
    subst e
    simp only [decide_true, Bool.true_and] at h h'
    rw [natsLt_tri as bs h.2 h'.2]
mutual
theorem D.alk_alike : ∀ (d e : D), D.alk d e = true → PySem.W.alike d.py e.py = true
  | .non, e, h => by cases e <;> simp [D.alk] at h; simp [D.py, PySem.W.alike]
  | .int i, e, h => by cases e <;> simp [D.alk] at h; simp [D.py, PySem.W.alike]
  | .str i, e, h => by cases e <;> simp [D.alk] at h; simp [D.py, PySem.W.alike]
  | .bl i, e, h => by simp [D.alk] at h
  | .dct _ i, e, h => by simp [D.alk] at h
  | .dcn i, e, h => by simp [D.alk] at h
  | .stt, e, h => by simp [D.alk] at h
  | .tup xs, e, h => by
    cases e with
    | tup ys => simp only [D.py, PySem.W.alike]; exact D.alkL_alike xs ys (by simpa [D.alk] using h)
    | _ => simp [D.alk] at h
  | .lst xs, e, h => by
    cases e with
    | lst ys => simp only [D.py, PySem.W.alike]; exact D.alkL_alike xs ys (by simpa [D.alk] using h)
    | _ => simp [D.alk] at h
theorem D.alkL_alike : ∀ (d e : List D), D.alkL d e = true → PySem.W.alikeAll (D.pyL d) (D.pyL e) = true
  | [], e, _ => by cases e <;> simp [D.pyL, PySem.W.alikeAll]
  | x :: xs, [], _ => by simp [D.pyL, PySem.W.alikeAll]
  | x :: xs, y :: ys, h => by
    simp only [D.alkL, Bool.and_eq_true] at h
    simp only [D.pyL, PySem.W.alikeAll, D.alk_alike x y h.1, D.alkL_alike xs ys h.2, Bool.and_self]
end
theorem dataLt_all (x y : PyData) (xs ys : List PyData) (h : PySem.W.alike x y = true) : PyProof.Rows.lexLt itemOrd (PySem.W.keyToksAll (x :: xs)) (PySem.W.keyToksAll (y :: ys)) = if PyData.eqv x y then PyProof.Rows.lexLt itemOrd (PySem.W.keyToksAll xs) (PySem.W.keyToksAll ys) else PySem.W.dataLt x y := by
  cases e : PyData.eqv x y with
  | true => rw [if_pos rfl]; exact PySem.W.dataLt_all_yes h e
  | false => rw [if_neg (by simp)]; exact PySem.W.dataLt_all_no h e
mutual
theorem D.lt_data : ∀ (n : Nat) (d e : D), d.pl n = true → e.pl n = true → D.alk d e = true → PySem.W.dataLt d.py e.py = D.lt d e
  | n, .non, e, _, _, h => by
    cases e <;> simp [D.alk] at h
    simp only [D.py, D.lt, PySem.W.dataLt, PySem.W.keyToks]; rfl
  | n, .int i, e, _, _, h => by
    cases e <;> simp [D.alk] at h
    simp only [D.py, D.lt]; exact PySem.W.dataLt_int _ _
  | n, .str i, e, _, _, h => by
    cases e <;> simp [D.alk] at h
    simp only [D.py, D.lt]; rw [PySem.W.dataLt_str, natsLt_eq]
  | n, .bl i, e, _, _, h => by simp [D.alk] at h
  | n, .dct _ i, e, _, _, h => by simp [D.alk] at h
  | n, .dcn i, e, _, _, h => by simp [D.alk] at h
  | n, .stt, e, _, _, h => by simp [D.alk] at h
  | 0, .tup xs, e, h, _, _ => by simp [D.pl] at h
  | 0, .lst xs, e, h, _, _ => by simp [D.pl] at h
  | n + 1, .tup xs, e, h1, h2, h => by
    cases e with
    | tup ys => simp only [D.py, D.lt]; rw [PySem.W.dataLt_tuple]; exact D.ltL_data n xs ys (by simpa [D.pl] using h1) (by simpa [D.pl] using h2) (by simpa [D.alk] using h)
    | _ => simp [D.alk] at h
  | n + 1, .lst xs, e, h1, h2, h => by
    cases e with
    | lst ys => simp only [D.py, D.lt]; rw [PySem.W.dataLt_list]; exact D.ltL_data n xs ys (by simpa [D.pl] using h1) (by simpa [D.pl] using h2) (by simpa [D.alk] using h)
    | _ => simp [D.alk] at h
theorem D.ltL_data : ∀ (n : Nat) (d e : List D), D.plL n d = true → D.plL n e = true → D.alkL d e = true → PyProof.Rows.lexLt itemOrd (PySem.W.keyToksAll (D.pyL d)) (PySem.W.keyToksAll (D.pyL e)) = D.ltL d e
  | n, [], [], _, _, _ => by simp only [D.pyL, D.ltL]; exact lex_irrefl _
  | n, [], y :: ys, _, _, _ => by
    simp only [D.pyL, D.ltL, PySem.W.keyToksAll]
    rw [lex_diff (O := itemOrd) (by simp)]; rfl
  | n, x :: xs, [], _, _, _ => by
    simp only [D.pyL, D.ltL, PySem.W.keyToksAll]
    rw [lex_diff (O := itemOrd) (by simp)]; rfl
  | n, x :: xs, y :: ys, h1, h2, h => by
    simp only [D.plL, Bool.and_eq_true] at h1 h2
    simp only [D.alkL, Bool.and_eq_true] at h
    simp only [D.pyL, D.ltL]
    rw [dataLt_all _ _ _ _ (D.alk_alike x y h.1), D.eqv_beq n x y h1.1 h2.1, D.ltL_data n xs ys h1.2 h2.2 h.2, D.lt_data n x y h1.1 h2.1 h.1]
end
theorem D.beq_self (n : Nat) (d : D) (h : d.pl n = true) : D.beq d d = true := (D.beq_eq n d d h).mpr rfl
theorem D.beq_comm {n : Nat} {d e : D} (h1 : d.pl n = true) (h2 : e.pl n = true) : D.beq d e = D.beq e d := by
  cases h : D.beq d e with
  | true =>
    have := (D.beq_eq n d e h1).mp h
    subst this
    exact h.symm
  | false =>
    cases h' : D.beq e d with
    | false => rfl
    | true =>
      have := (D.beq_eq n e d h2).mp h'
      subst this
      rw [h'] at h; cases h
mutual
theorem D.tri : ∀ (n : Nat) (d e : D), d.pl n = true → e.pl n = true → D.alk d e = true → D.lt d e = false → D.lt e d = false → d = e
  | n, .non, e, _, _, h, _, _ => by cases e <;> simp [D.alk] at h; rfl
  | n, .int i, e, _, _, h, a, b => by
    cases e <;> simp [D.alk] at h
    simp only [D.lt, decide_eq_false_iff_not] at a b
    congr 1; omega
  | n, .str i, e, _, _, h, a, b => by
    cases e <;> simp [D.alk] at h
    simp only [D.lt] at a b
    congr 1
    exact PySem.W.str_of_cps (natsLt_tri _ _ a b)
  | n, .bl i, e, _, _, h, _, _ => by simp [D.alk] at h
  | n, .dct _ i, e, _, _, h, _, _ => by simp [D.alk] at h
  | n, .dcn i, e, _, _, h, _, _ => by simp [D.alk] at h
  | n, .stt, e, _, _, h, _, _ => by simp [D.alk] at h
  | 0, .tup xs, e, h, _, _, _, _ => by simp [D.pl] at h
  | 0, .lst xs, e, h, _, _, _, _ => by simp [D.pl] at h
  | n + 1, .tup xs, e, h1, h2, h, a, b => by
    cases e with
    | tup ys => congr 1; exact D.triL n xs ys (by simpa [D.pl] using h1) (by simpa [D.pl] using h2) (by simpa [D.alk] using h) (by simpa [D.lt] using a) (by simpa [D.lt] using b)
    | _ => simp [D.alk] at h
  | n + 1, .lst xs, e, h1, h2, h, a, b => by
    cases e with
    | lst ys => congr 1; exact D.triL n xs ys (by simpa [D.pl] using h1) (by simpa [D.pl] using h2) (by simpa [D.alk] using h) (by simpa [D.lt] using a) (by simpa [D.lt] using b)
    | _ => simp [D.alk] at h
theorem D.triL : ∀ (n : Nat) (d e : List D), D.plL n d = true → D.plL n e = true → D.alkL d e = true → D.ltL d e = false → D.ltL e d = false → d = e
  | n, [], [], _, _, _, _, _ => rfl
  | n, [], y :: ys, _, _, _, a, _ => by simp [D.ltL] at a
  | n, x :: xs, [], _, _, _, _, b => by simp [D.ltL] at b
  | n, x :: xs, y :: ys, h1, h2, h, a, b => by
    simp only [D.plL, Bool.and_eq_true] at h1 h2
    simp only [D.alkL, Bool.and_eq_true] at h
    simp only [D.ltL] at a b
    rw [D.beq_comm h2.1 h1.1] at b
    cases e : D.beq x y with
    | true =>
      rw [e, if_pos rfl] at a b
      rw [(D.beq_eq n x y h1.1).mp e, D.triL n xs ys h1.2 h2.2 h.2 a b]
    | false =>
      rw [e, if_neg (by simp)] at a b
      have := D.tri n x y h1.1 h2.1 h.1 a b
      subst this
      rw [D.beq_self n x h1.1] at e; cases e
end
/-! ### what can be sorted -/
def D.tupE : D → Bool
  | .tup [] => true
  | _ => false
def srtOk (xs : List D) : Bool := D.plL 60 xs && xs.all (fun x => xs.all fun y => D.alk x y) && xs.all (fun x => !D.tupE x && match x with | .non => false | _ => true)
def insD (x : D) : List D → List D
  | [] => [x]
  | y :: r => if D.lt y x then y :: insD x r else x :: y :: r
def sortD : List D → List D
  | [] => []
  | x :: xs => insD x (sortD xs)
theorem insD_perm (x : D) : ∀ l : List D, (insD x l).Perm (x :: l)
  | [] => List.Perm.refl _
  | y :: r => by
    unfold insD
    split
    · exact ((insD_perm x r).cons y).trans (List.Perm.swap x y r)
    · exact List.Perm.refl _
theorem sortD_perm : ∀ l : List D, (sortD l).Perm l
  | [] => List.Perm.refl _
  | x :: xs => (insD_perm x (sortD xs)).trans ((sortD_perm xs).cons x)
theorem swoD : SrtO.Swo fun x y : D => PySem.W.dataLt x.py y.py := by
  refine ⟨fun x y h => ?_, fun x y z h1 h2 => ?_⟩
  · cases e : PySem.W.dataLt y.py x.py with
    | false => rfl
    | true =>
      have := lex_trans _ _ _ h e
      rw [lex_irrefl] at this; cases this
  · cases e : PySem.W.dataLt z.py x.py with
    | false => rfl
    | true =>
      rcases lex_negTrans _ (PySem.W.keyToks y.py) _ e with h | h
      · have : PySem.W.dataLt z.py y.py = true := h
        rw [h2] at this; cases this
      · have : PySem.W.dataLt y.py x.py = true := h
        rw [h1] at this; cases this
theorem srtOk_pl {xs : List D} (h : srtOk xs = true) : ∀ x ∈ xs, x.pl 60 = true := by
  have h0 : D.plL 60 xs = true := by
    unfold srtOk at h
    simp only [Bool.and_eq_true] at h
    exact h.1.1
  clear h
  induction xs with
  | nil => intro x hx; cases hx
  | cons y ys ih =>
    simp only [D.plL, Bool.and_eq_true] at h0
    intro x hx
    rcases List.mem_cons.mp hx with rfl | hx
    · exact h0.1
    · exact ih h0.2 x hx
theorem srtOk_alk {xs : List D} (h : srtOk xs = true) : ∀ x ∈ xs, ∀ y ∈ xs, D.alk x y = true := by
  unfold srtOk at h
  simp only [Bool.and_eq_true, List.all_eq_true] at h
  exact fun x hx y hy => h.1.2 x hx y hy
theorem srtOk_no {xs : List D} (h : srtOk xs = true) : ∀ x ∈ xs, x ≠ .non ∧ x ≠ .tup [] := by
  unfold srtOk at h
  simp only [Bool.and_eq_true, List.all_eq_true] at h
  intro x hx
  have := h.2 x hx
  constructor
  · rintro rfl; simp at this
  · rintro rfl; simp [D.tupE] at this
theorem srtOk_lt {xs : List D} (h : srtOk xs = true) {x y : D} (hx : x ∈ xs) (hy : y ∈ xs) : PySem.W.dataLt x.py y.py = D.lt x y :=
  D.lt_data 60 x y (srtOk_pl h x hx) (srtOk_pl h y hy) (srtOk_alk h x hx y hy)
/-- sorted by dataLt -/
theorem insD_srtd {x : D} {l : List D} (hl : SrtO.Srtd (fun x y : D => PySem.W.dataLt x.py y.py) l) (he : ∀ y ∈ l, D.lt y x = PySem.W.dataLt y.py x.py) : SrtO.Srtd (fun x y : D => PySem.W.dataLt x.py y.py) (insD x l) := by
  induction l with
  | nil => exact SrtO.srtd_one x
  | cons y r ih =>
    unfold insD
    have e := he y List.mem_cons_self
    split
    · rename_i hlt
      rw [e] at hlt
      refine List.pairwise_cons.mpr ⟨fun z hz => ?_, ih (List.pairwise_cons.mp hl).2 fun z hz => he z (List.mem_cons_of_mem _ hz)⟩
      rcases List.mem_cons.mp ((insD_perm x r).mem_iff.mp hz) with rfl | hz
      · exact swoD.asym _ _ hlt
      · exact SrtO.srtd_head hl z hz
    · rename_i hlt
      rw [e] at hlt
      have hlt : PySem.W.dataLt y.py x.py = false := by simpa using hlt
      exact List.pairwise_cons.mpr ⟨fun z hz => swoD.le_all hl hlt z hz, hl⟩
theorem sortD_srtd {xs : List D} (h : srtOk xs = true) : ∀ l : List D, (∀ x ∈ l, x ∈ xs) → SrtO.Srtd (fun x y : D => PySem.W.dataLt x.py y.py) (sortD l)
  | [], _ => List.Pairwise.nil
  | x :: l, hm => insD_srtd (sortD_srtd h l fun z hz => hm z (List.mem_cons_of_mem _ hz)) fun y hy =>
      (srtOk_lt h (hm y (List.mem_cons_of_mem _ ((sortD_perm l).mem_iff.mp hy))) (hm x List.mem_cons_self)).symm
theorem srtd_unique {xs : List D} (h : srtOk xs = true) : ∀ l m : List D, SrtO.Srtd (fun x y : D => PySem.W.dataLt x.py y.py) l → SrtO.Srtd (fun x y : D => PySem.W.dataLt x.py y.py) m → l.Perm m → (∀ x ∈ l, x ∈ xs) → l = m
  | [], m, _, _, p, _ => by rw [List.nil_perm.mp p]
  | x :: l, m, h1, h2, p, hm => by
    cases m with
    | nil => exact absurd p.length_eq (by simp)
    | cons y m =>
      have hx : x ∈ y :: m := p.mem_iff.mp List.mem_cons_self
      have hy : y ∈ x :: l := p.mem_iff.mpr List.mem_cons_self
      have e : x = y := by
        have hxx := hm x List.mem_cons_self
        have hyy := hm y hy
        refine D.tri 60 x y (srtOk_pl h x hxx) (srtOk_pl h y hyy) (srtOk_alk h x hxx y hyy) ?_ ?_
        · rw [← srtOk_lt h hxx hyy]
          rcases List.mem_cons.mp hx with e | hx
          · rw [e]; exact swoD.refl y
          · exact SrtO.srtd_head h2 x hx
        · rw [← srtOk_lt h hyy hxx]
          rcases List.mem_cons.mp hy with e | hy
          · rw [e]; exact swoD.refl x
          · exact SrtO.srtd_head h1 y hy
      subst e
      rw [srtd_unique h l m (List.pairwise_cons.mp h1).2 (List.pairwise_cons.mp h2).2 (List.Perm.cons_inv p) fun z hz => hm z (List.mem_cons_of_mem _ hz)]

/-! ### sorted, of lists -/
def dSorted : List D → M D
  | [.lst xs] => if srtOk xs then .ret (.lst (sortD xs)) else .fail
  | _ => .fail
theorem D.pyL_map : ∀ ds : List D, D.pyL ds = ds.map D.py
  | [] => rfl
  | d :: ds => by rw [D.pyL, D.pyL_map ds, List.map_cons]
def rSortedD (K : PySem.W.Frag) : List V → Hp → VK → Prop := fun vs H Q => ∃ (a : Addr) (ys : List V) (ds : List D), vs = [V.ref a] ∧ SqL K H a ys ∧ DpAll K H ys (D.pyL ds) ∧ srtOk ds = true ∧
  ∀ (ps : List (V × D)) (p : Addr), ps.Perm (ys.zip ds) → ps.map (·.2) = sortD ds → H p = none → Q (.ref p) (upd H p (.lst (ps.map (·.1))))
theorem srt_alike {ds : List D} (h : srtOk ds = true) : PySem.W.AllAlike (ds.map D.py) := by
  intro d hd d' hd'
  obtain ⟨x, hx, rfl⟩ := List.mem_map.mp hd
  obtain ⟨y, hy, rfl⟩ := List.mem_map.mp hd'
  exact D.alk_alike x y (srtOk_alk h x hx y hy)
theorem srt_sortable {ds : List D} (h : srtOk ds = true) : PySem.W.Sortable (ds.map D.py) := by
  cases ds with
  | nil => exact .inl fun d hd => absurd hd (by simp)
  | cons d0 ds0 =>
    by_cases ht : ∃ xs, d0 = .tup xs
    · obtain ⟨xs, rfl⟩ := ht
      refine .inl fun d hd => ?_
      obtain ⟨y, hy, rfl⟩ := List.mem_map.mp hd
      have a := srtOk_alk h _ List.mem_cons_self y hy
      have b := (srtOk_no h y hy).2
      cases y <;> simp [D.alk] at a
      rename_i zs
      cases zs with
      | nil => exact absurd rfl b
      | cons z zs => exact ⟨z.py, D.pyL zs, by simp [D.py, D.pyL]⟩
    · refine .inr fun d hd => ?_
      obtain ⟨y, hy, rfl⟩ := List.mem_map.mp hd
      have a := srtOk_alk h _ List.mem_cons_self y hy
      have b := (srtOk_no h y hy).1
      cases y <;> cases d0 <;> simp [D.alk] at a b ht <;> simp [D.py]
theorem each_zip {K : PySem.W.Frag} : ∀ {ys : List V} {us : List Value} {ds : List D}, Vals ys us → ys.length = ds.length → PySem.W.EachIs (fun (u : Value) (p : V × D) => RelV p.1 u) us (ys.zip ds)
  | _, _, [], .nil, _ => .nil
  | _, _, [], .cons _ _, h => by simp at h
  | _, _, d :: ds, .nil, h => by simp at h
  | _, _, d :: ds, .cons r t, h => by
    rw [List.zip_cons_cons]
    exact .cons r (each_zip (K := K) t (by simpa using h))
theorem each_reads {h : Heap} : ∀ {ys : List V} {us : List Value} {ds : List D} {as : List Addr}, ReadsAll h us (D.pyL ds) as → ys.length = ds.length → PySem.W.EachIs (fun (u : Value) (p : V × D) => ∃ as, Reads h u p.2.py as) us (ys.zip ds)
  | [], _, [], _, r, _ => by
    have r' : ReadsAll h _ [] _ := r
    cases r'; exact .nil
  | _ :: _, _, [], _, _, h => by simp at h
  | [], _, d :: ds, _, _, h => by simp at h
  | y :: ys, _, d :: ds, _, r, hl => by
    have r' : ReadsAll h _ (d.py :: D.pyL ds) _ := r
    cases r' with
    | cons h1 h2 =>
      rw [List.zip_cons_cons]
      exact .cons ⟨_, h1⟩ (each_reads h2 (by simpa using hl))
theorem each_vals : ∀ {us : List Value} {ps : List (V × D)}, PySem.W.EachIs (fun (u : Value) (p : V × D) => RelV p.1 u) us ps → Vals (ps.map (·.1)) us
  | _, _, .nil => .nil
  | _, _, .cons h t => .cons h (each_vals t)
theorem dpAll_len {K : PySem.W.Frag} {H : Hp} : ∀ {ys : List V} {ds : List PyData}, DpAll K H ys ds → ys.length = ds.length
  | _, _, .nil => rfl
  | _, _, .cons _ t => congrArg (· + 1) (dpAll_len t)
theorem zip_snd {α β : Type} : ∀ (as : List α) (bs : List β), as.length = bs.length → (as.zip bs).map (·.2) = bs
  | [], [], _ => rfl
  | [], _ :: _, h => by simp at h
  | _ :: _, [], h => by simp at h
  | a :: as, b :: bs, h => by rw [List.zip_cons_cons, List.map_cons, zip_snd as bs (by simpa using h)]
theorem zip_fst {α β : Type} : ∀ (as : List α) (bs : List β), as.length = bs.length → (as.zip bs).map (·.1) = as
  | [], [], _ => rfl
  | [], _ :: _, h => by simp at h
  | _ :: _, [], h => by simp at h
  | a :: as, b :: bs, h => by rw [List.zip_cons_cons, List.map_cons, zip_fst as bs (by simpa using h)]
theorem srtd_merge (ds : List D) (bs : List (V × D)) (hb : bs.map (·.2) = ds) (h : srtOk ds = true) : (bs.mergeSort (PySem.W.dataLe false fun p : V × D => p.2.py)).map (·.2) = sortD ds := by
  have e : PySem.W.dataLe false (fun p : V × D => p.2.py) = fun a b => !PySem.W.dataLt b.2.py a.2.py := by
    rw [PySem.W.dataLe_eq] <;> rfl
  have p := List.mergeSort_perm bs (PySem.W.dataLe false fun p : V × D => p.2.py)
  have p2 := (p.map (·.2))
  rw [hb] at p2
  refine srtd_unique h _ _ ?_ (sortD_srtd h ds fun x hx => hx) (p2.trans (sortD_perm ds).symm) fun x hx => p2.mem_iff.mp hx
  have hp : (bs.mergeSort (PySem.W.dataLe false fun p : V × D => p.2.py)).Pairwise (fun a b => PySem.W.dataLe false (fun p : V × D => p.2.py) a b = true) := by
    refine List.pairwise_mergeSort (fun a b c h1 h2 => ?_) (fun a b => ?_) bs
    · rw [e] at h1 h2 ⊢
      simp only [Bool.not_eq_true'] at h1 h2 ⊢
      exact swoD.tr _ _ _ h1 h2
    · rw [e]
      show (!PySem.W.dataLt b.2.py a.2.py || !PySem.W.dataLt a.2.py b.2.py) = true
      cases q : PySem.W.dataLt b.2.py a.2.py with
      | false => rfl
      | true => rw [swoD.asym b.2 a.2 q]; rfl
  refine List.pairwise_map.mpr (hp.imp fun {a b} h => ?_)
  rw [e] at h
  simpa using h
theorem cr_sortedD {X : Cx} (hu : X.A.units + 64 < cLine) : CallR X (.builtin "sorted") (rSortedD X.K) := by
  intro pins s σ H vs us Q I r h
  obtain ⟨a, ys, ds, rfl, hs, hd, ho, q⟩ := h
  obtain ⟨its, rv, hl, hz⟩ := I.list hs
  rw [Vals.ref1 r]
  have hlen : ys.length = ds.length := by rw [dpAll_len hd, D.pyL_map, List.length_map]
  have hb := zip_snd ys ds hlen
  obtain ⟨as, hr⟩ := Dp.readsAll I (D.pyL ds) ys its hd rv
  have hm : (ys.zip ds).map (fun p : V × D => p.2.py) = ds.map D.py := by
    conv => rhs; rw [← hb]
    rw [List.map_map] <;> rfl
  refine PySem.W.sorted_data (enc := fun p : V × D => p.2.py) hl.isList (each_zip (K := X.K) rv hlen) (each_reads hr hlen) (by rw [hm]; exact srt_alike ho) (by rw [hm]; exact srt_sortable ho)
    (by rw [List.length_zip, rv.length]; omega) (fun b hb' => ?_) fun out e1 e2 => ?_
  · have : b.2 ∈ ds := by rw [← hb]; exact List.mem_map.mpr ⟨b, hb', rfl⟩
    have := D.dep 60 b.2 (srtOk_pl ho _ this)
    omega
  · have hp := List.mergeSort_perm (ys.zip ds) (PySem.W.dataLe false fun p : V × D => p.2.py)
    obtain ⟨ep, he'⟩ := PyProof.Rows.sortedAll_at s.heap its out.toArray
    have hl2 : (((ys.zip ds).mergeSort (PySem.W.dataLe false fun p : V × D => p.2.py)).map (·.1)).length ≤ sizeLine := by
      rw [List.length_map, hp.length_eq, List.length_zip, rv.length]; omega
    exact ⟨.ref _, upd H (s.heap.objs.size + 1) (.lst (((ys.zip ds).mergeSort (PySem.W.dataLe false fun p : V × D => p.2.py)).map (·.1))), I.laid (t' := s.toks) (fun _ _ => PyProof.Rows.sortedAll_old) (Nat.le_succ _) ⟨hl2, out, ep, each_vals e2, he'⟩, rfl,
      q _ _ hp (srtd_merge ds _ hb ho) (I.hok.fresh (Nat.le_succ _))⟩
/-- rows in another order -/
theorem RpL.zip_mem {S : SA} {F : Hp} : ∀ {ds : List D} {vs : List V}, RpL S F ds vs → ∀ p ∈ vs.zip ds, Rp S F p.2 p.1
  | _, _, .nil, p, h => by simp at h
  | _, _, .cons r t, p, h => by
    rw [List.zip_cons_cons] at h
    rcases List.mem_cons.mp h with rfl | h
    · exact r
    · exact RpL.zip_mem t p h
theorem RpL.of_mem {S : SA} {F : Hp} : ∀ {ps : List (V × D)}, (∀ p ∈ ps, Rp S F p.2 p.1) → RpL S F (ps.map (·.2)) (ps.map (·.1))
  | [], _ => .nil
  | p :: ps, h => .cons (h p List.mem_cons_self) (RpL.of_mem fun q hq => h q (List.mem_cons_of_mem _ hq))
section
variable {S : SA} {X : Cx}
theorem c_sorted (hu : X.A.units + 64 < cLine) : CallF S X (.builtin "sorted") dSorted := ⟨_, cr_sortedD hu, fun G F σ H env vs ds Q g r q => by
  unfold dSorted at q
  split at q
  · rename_i xs
    split at q
    · rename_i ho
      obtain ⟨v, rfl, r1⟩ := rdb1 r
      obtain ⟨p, ys, rfl, h1, l1, z1⟩ := r1.lst g
      have hd : DpAll X.K H ys (D.pyL xs) := by
        have hpl : D.plL 60 xs = true := by
          unfold srtOk at ho; simp only [Bool.and_eq_true] at ho; exact ho.1.1
        exact (RpL.dp (K := X.K) g.fh 60 xs hpl l1).1
      refine ⟨p, ys, xs, rfl, .of h1, hd, ho, fun ps a hp he hn => ?_⟩
      have hr : RpL S F (sortD xs) (ps.map (·.1)) := by
        rw [← he]
        exact RpL.of_mem fun z hz => l1.zip_mem z (hp.mem_iff.mp hz)
      exact PostF.lst (show PostF S G F σ env Q (.lst (sortD xs)) from q) g hn hr (by rw [List.length_map, hp.length_eq, List.length_zip, l1.len]; omega)
    · exact q.elim
  · exact q.elim⟩
end
end DL

set_option Elab.async false
set_option linter.all false
set_option maxRecDepth 100000
/-! DL12: dict displays: {**d, k: v}. -/
namespace DL
open PySem PySem.Spec L2
open PyProof.Rows hiding St

section
variable {prog : Program} {w : World} {A : Around} {E : Value → Shared → Prop} {s : Shared}
theorem wp_dictPut {K : Type} [DecidableEq K] {knd : KeyKind prog w K} {d : Addr} {kvs : List (K × Value)} {k : K} {key v : Value} {Q : Unit → Shared → Prop} (hkey : knd.is k key = true) (hm : s.heap.DictOf knd d kvs)
    (hQ : ∀ h', h'.DictOf knd d (stored kvs k v) → Heap.SameBut d s.heap h' → Q () { s with heap := h' }) (hsz : kvs.length ≤ sizeLine) :
    wpAny (model prog w) A (dictPut d (knd.hash k) key v) Q E s := by
  obtain ⟨o, es, ep, ho, hc, hd, hk, hp, hn⟩ := hm
  have hes : es.size ≤ sizeLine := by have e1 := hp.length; have e2 : es.toList.length = es.size := by simp
                                      omega
  unfold dictPut
  refine wpAny_bind (wpAny_dictFind_of hkey ho hd hk ?_)
  have hidx : (es.findIdx? fun e => knd.is k e.key) = kvs.findIdx? fun kv => decide (kv.1 = k) := by
    rw [← hp.findIdx k]; obtain ⟨l⟩ := es; simp
  cases hi : es.findIdx? fun e => knd.is k e.key with
  | some i =>
    refine wpAny_updateDict ho hd (hQ _ ⟨_, _, ep, Heap.get?_update_self _ ho (Obj.isFreed_of_dict (Obj.data_mapDict hd _)),
      hc.mapDict _, Obj.data_mapDict hd _, hk.modify _ _, ?_, ?_⟩ (Heap.SameBut.update ..))
    · rw [stored, if_pos (any_of_findIdx_some (hidx ▸ hi))]
      have hl : (es.toList.findIdx? fun e => knd.is k e.key) = some i := by rw [← hi]; obtain ⟨l⟩ := es; simp
      have := hp.modify hn hl v
      obtain ⟨l⟩ := es
      simpa using this
    · rw [stored, if_pos (any_of_findIdx_some (hidx ▸ hi)), keys_map_store]; exact hn
  | none =>
    have hnot : k ∉ kvs.map (·.1) := not_mem_of_findIdx_none (hidx ▸ hi)
    have hany : ¬ (kvs.any fun kv => decide (kv.1 = k)) = true := by
      rw [List.any_eq_true]; rintro ⟨kv, hkv, he⟩
      exact hnot (List.mem_map.mpr ⟨kv, hkv, of_decide_eq_true he⟩)
    refine wpAny_updateDictKeys (hz := hes) ho hd (hQ _ ⟨_, _, ep + 1, Heap.get?_update_self _ ho (Obj.isFreed_of_dict (Obj.data_mapDictKeys hd _)),
      hc.mapDictKeys _, Obj.data_mapDictKeys hd _, hk.push hkey _, ?_, ?_⟩ (Heap.SameBut.update ..))
    · rw [stored, if_neg hany]
      have := hp.append hkey (knd.hash k) v
      obtain ⟨l⟩ := es
      simpa using this
    · rw [stored, if_neg hany, List.map_append, List.nodup_append]
      refine ⟨hn, by simp, ?_⟩
      intro a ha b hb
      simp only [List.map_cons, List.map_nil, List.mem_singleton] at hb
      subst hb
      exact fun e => hnot (e ▸ ha)

theorem key_noRef {k : Key} {v : Value} (h : keyIs k v = true) : ∀ a, v ≠ .ref a := by
  rcases keyIs_shape h with ⟨i, t, rfl, rfl⟩ | ⟨x, t, rfl, rfl⟩ <;> intro a z <;> cases z
theorem wp_noRefs {β : Type} {f : DictEntry → Sem (ForInStep PUnit)} : ∀ (es : List DictEntry) {Q : PUnit → Shared → Prop}, (∀ e ∈ es, ∀ (Q' : ForInStep PUnit → Shared → Prop), Q' (.yield ⟨⟩) s → wpAny (model prog w) A (f e) Q' E s) → Q ⟨⟩ s →
    wpAny (model prog w) A (forIn es PUnit.unit fun e (_ : PUnit) => f e) Q E s
  | [], _, _, h => by rw [List.forIn_nil]; exact wpAny_pure h
  | e :: es, Q, hf, h => by
    rw [List.forIn_cons]
    refine wpAny_bind (hf e List.mem_cons_self _ ?_)
    exact wp_noRefs (β := β) es (fun e' he' => hf e' (List.mem_cons_of_mem _ he')) h

theorem wp_mergeMapping {d o : Addr} {kvs more : List (Key × Value)} {Q : Unit → Shared → Prop} (hdo : d ≠ o) (hoS : (o == sysModules) = false)
    (hd : s.heap.DictOf (mixKind prog w) d kvs) (ho : s.heap.DictOf (mixKind prog w) o more)
    (hQ : ∀ h', h'.DictOf (mixKind prog w) d (merged kvs more) → Heap.SameBut d s.heap h' → Q () { s with heap := h' })
    (hsz : kvs.length + more.length ≤ sizeLine) : wpAny (model prog w) A (mergeMapping d (.ref o) false) Q E s := by
  obtain ⟨od, esd, epd, hod, hcd, hdd, hkd, hpd, hnd⟩ := id hd
  obtain ⟨oo, eso, epo, hoo, hco, hdo', hko, hpo, hno⟩ := id ho
  have hlen : more.length = eso.size := by rw [← hpo.length]; simp
  unfold mergeMapping
  refine wpAny_bind (wpAny_isInstance ho.typeIs isSubtype_dict_dict ?_)
  simp only [if_true]
  refine wpAny_bind (wpAny_specialOf ho.typeIs F.slot_dict_iter.lookup ?_)
  refine wpAny_bind (wpAny_pure ?_)
  simp only [beq_self_eq_true]
  rw [if_neg (by rw [hoS]; exact Bool.false_ne_true)]
  refine wpAny_bind (wpAny_dictEntries hod hdd ?_)
  have loop : wpAny (model prog w) A (do
      let __x ← dictEntries o
      let epoch ← dictEpoch o
      forIn (List.range __x.size) PUnit.unit fun i (_ : PUnit) => (do
          let l' ← dictEntries o
          match l'[i]? with
            | some e => do
              holding [e.key, e.val] (dictPut d e.hash e.key e.val)
              let ep' ← dictEpoch o
              if (ep' != epoch) = true then do
                  (unsupported "dict.changed-during-merge" : Sem PUnit)
                  pure (ForInStep.yield PUnit.unit)
                else pure (ForInStep.yield PUnit.unit)
            | _ => do
              (unsupported "dict.changed-during-merge" : Sem PUnit)
              pure (ForInStep.yield PUnit.unit) : Sem (ForInStep PUnit))
      pure ()) Q E s := by
    refine wpAny_bind (wpAny_dictEntries hoo hdo' ?_)
    refine wpAny_bind (wpAny_dictEpoch hoo hdo' ?_)
    refine wpAny_bind ?_
    rw [List.range_eq_range']
    refine wpAny_forIn_list _
      (fun rest _ s' => ∃ h' i, s' = { s with heap := h' } ∧ rest = List.range' i (eso.size - i) ∧ i ≤ eso.size ∧ h'.DictOf (mixKind prog w) d (merged kvs (more.take i)) ∧ h'.get? o = some oo ∧ Heap.SameBut d s.heap h')
      _ ?_ ?_ _ _ ⟨s.heap, 0, rfl, by simp, Nat.zero_le _, by simpa [merged] using hd, hoo, Heap.SameBut.refl _ _⟩
    · rintro x rest b s' ⟨h', i, rfl, hr, hi, hd', hoo', hs'⟩
      have hlt : i < eso.size := by
        rcases Nat.lt_or_ge i eso.size with h | h
        · exact h
        · rw [Nat.sub_eq_zero_of_le h] at hr; simp at hr
      obtain ⟨rfl, hrest⟩ : x = i ∧ rest = List.range' (i + 1) (eso.size - (i + 1)) := by
        have e : eso.size - i = (eso.size - (i + 1)) + 1 := by omega
        rw [e, List.range'_succ] at hr
        injection hr with h1 h2
        exact ⟨h1, h2⟩
      refine wpAny_bind (wpAny_dictEntries hoo' hdo' ?_)
      rw [Array.getElem?_eq_getElem hlt]
      obtain ⟨kv, hkv⟩ : ∃ kv, more[x]? = some kv := ⟨more[x]'(by rw [hlen]; exact hlt), List.getElem?_eq_getElem _⟩
      obtain ⟨k, v⟩ := kv
      obtain ⟨hkey, hval⟩ := hpo.get? (e := eso[x]) (by simp [hlt]) hkv
      obtain ⟨k', hkey', hhash⟩ := hko eso[x] (Array.getElem_mem hlt)
      obtain rfl : k' = k := (mixKind prog w).inj _ _ _ hkey' hkey
      show wpAny _ _ (holding [eso[x].key, eso[x].val] (dictPut d eso[x].hash eso[x].key eso[x].val) >>= _) _ _ _
      rw [hhash, hval]
      have hmx : (merged kvs (more.take x)).length ≤ sizeLine := by
        have e1 := merged_length_le kvs (more.take x)
        have e2 : (more.take x).length ≤ more.length := by rw [List.length_take]; omega
        omega
      refine wpAny_bind (wpAny_holding (wp_dictPut (hsz := hmx) hkey hd' fun h'' hd'' hs'' => ?_))
      have hoo'' : h''.get? o = some oo := (hs''.2 o (Ne.symm hdo)).trans hoo'
      refine wpAny_bind (wpAny_dictEpoch hoo'' hdo' ?_)
      rw [if_neg (by simp)]
      exact wpAny_pure ⟨h'', x + 1, rfl, hrest, hlt, by rw [merged_take_succ kvs more x (k', v) hkv]; exact hd'', hoo'', hs'.trans hs''⟩
    · rintro b s' ⟨h', i, rfl, hr, hi, hd', hoo', hs'⟩
      have hin : i = eso.size := by
        rcases Nat.lt_or_ge i eso.size with h | h
        · have e : eso.size - i = (eso.size - (i + 1)) + 1 := by omega
          rw [e, List.range'_succ] at hr; exact nomatch hr
        · exact Nat.le_antisymm hi h
      refine wpAny_pure (hQ h' ?_ hs')
      rw [hin, ← hlen, List.take_length] at hd'; exact hd'
  split
  · refine wpAny_bind (wpAny_dictEntries hoo hdo' ?_)
    refine wpAny_bind ?_
    rw [← Array.forIn_toList]
    refine wp_noRefs (β := Unit) _ (fun e he Q' hq => ?_) ?_
    · obtain ⟨k', hk', _⟩ := hko e (by simpa using he)
      have := key_noRef hk'
      split
      · rename_i a ha
        exact absurd ha (this a)
      · exact wpAny_pure hq
    · exact loop
  · exact loop
end

section
variable {prog : Program} {w : World} {A : Around} {E : Value → Shared → Prop} {s : Shared}
theorem wp_star {dm : Sem Value} {prs : Sem Value × Sem Value} {Q : Value → Shared → Prop}
    (h : wpAny (model prog w) A dm (fun m s1 => ∃ o more, m = .ref o ∧ s.heap.objs.size ≠ o ∧ (o == sysModules) = false ∧ s1.heap.DictOf (mixKind prog w) s.heap.objs.size [] ∧ s1.heap.DictOf (mixKind prog w) o more ∧ more.length ≤ sizeLine ∧
      ∀ h', h'.DictOf (mixKind prog w) s.heap.objs.size more → Heap.SameBut s.heap.objs.size s1.heap h' →
        wpAny (model prog w) A (subDict [prs]) (fun d s2 => ∃ kv kvs, s2.heap.DictOf (mixKind prog w) d [kv] ∧ s2.heap.DictOf (mixKind prog w) s.heap.objs.size kvs ∧ s.heap.objs.size ≠ d ∧ (d == sysModules) = false ∧ kvs.length + 1 ≤ sizeLine ∧
          ∀ h'', h''.DictOf (mixKind prog w) s.heap.objs.size (stored kvs kv.1 kv.2) → Heap.SameBut s.heap.objs.size s2.heap h'' → Q (.ref s.heap.objs.size) { s2 with heap := h'' }) E { s1 with heap := h' }) E
      { s with heap := s.heap.push { cls := .type "dict", data := .dict #[] } }) :
    wpAny (model prog w) A (dictDisplay [(none, dm), (some prs.1, prs.2)]) Q E s := by
  unfold dictDisplay
  simp only [List.forIn_cons, List.forIn_nil, List.isEmpty_nil, if_true, List.nil_append, List.length_singleton]
  refine wpAny_bind (wpAny_bind (wpAny_bind (wpAny_pure ?_)))
  dsimp only
  refine wpAny_bind (wpAny_alloc ?_)
  refine wpAny_bind (wpAny_holding (wpAny_mono h (fun m s1 h1 => ?_) fun _ _ e => e))
  obtain ⟨o, more, rfl, hne, hoS, hd, ho, hz, h2⟩ := h1
  refine wpAny_bind (wpAny_onRaise (wpAny_tryCatch (wpAny_onRaise (wpAny_holding (wp_mergeMapping hne hoS hd ho (fun h' hd' hs' => ?_) (by simpa using hz))))))
  have hn : (more.map (·.1)).Nodup := let ⟨_, _, _, _, _, _, _, _, hn⟩ := ho; hn
  rw [merged_nil_of_nodup more hn] at hd'
  refine wpAny_pure ?_
  dsimp only
  refine wpAny_bind ?_
  rw [if_neg (by simp)]
  refine wpAny_pure ?_
  dsimp only
  refine wpAny_pure ?_
  refine wpAny_bind ?_
  rw [if_neg (by simp)]
  dsimp only
  refine wpAny_bind (wpAny_holding (wpAny_mono (h2 h' hd' hs') (fun d s2 h3 => ?_) fun _ _ e => e))
  obtain ⟨kv, kvs, hd2, hm2, hne2, hdS, hz2, h4⟩ := h3
  refine wpAny_bind (wpAny_onRaise (wpAny_holding (wp_mergeMapping hne2 hdS hm2 hd2 (fun h'' hd'' hs'' => ?_) (by simpa using hz2))))
  refine wpAny_pure ?_
  dsimp only
  exact wpAny_pure (h4 h'' hd'' hs'')
end

/-- {**d, k: v} -/
def tStar (td tk tv : TE) : TE := fun σ H Q => ∀ p, H p = none → td σ (upd H p (.dK [])) fun x H1 => ∃ a kvs, x = .ref a ∧ p ≠ a ∧ H1 p = some (.dK []) ∧ Rd H1 a (.dK kvs) ∧
  ∀ q, upd H1 p (.dK kvs) q = none → tk σ (upd (upd H1 p (.dK kvs)) q (.dK [])) fun y H2 => tv σ H2 fun z H3 => H3 q = some (.dK []) ∧ H3 p = some (.dK kvs) ∧ kvs.length < sizeLine ∧ ∃ k, y = kV k ∧ Q (.ref p) (upd (upd H3 q (.dK [(k, z)])) p (.dK (putK kvs k z)))
section
variable {X : Cx} {pos : Pos} {d k v : Expr} {td tk tv : TE}
theorem pe_star (hd : PE X d td) (hk : PE X k tk) (hv : PE X v tv) : PE X (.Dict [none, some k] [d, v] pos) (tStar td tk tv) := by
  refine ⟨fun pins s σ H Q I q => ?_⟩
  have hp := I.hok.fresh (Nat.le_refl s.heap.objs.size)
  have I0 := I.laid (a := s.heap.objs.size) (o := .dK []) (h' := s.heap.push { cls := .type "dict", data := .dict #[] }) (t' := s.toks) (fun _ _ q => Heap.get?_push_of_some _ q) (Nat.le_refl _) (dk_empty s.heap I.big)
  rw [arm_eval_Dict]
  refine wpAny_bind (wpAny_standAt ?_)
  show wpAny (model X.prog X.w) X.A (dictDisplay [(none, do let x ← eval d X.env; standAt pos; pure x), (some (eval k X.env), do let x ← eval v X.env; standAt pos; pure x)]) _ _ _
  refine wp_star (prs := (eval k X.env, do let x ← eval v X.env; standAt pos; pure x)) ?_
  refine wpAny_bind (thn (hd.run pins _ σ _ _ I0 (q _ hp)) fun u s1 ⟨x, H1, I1, rx, a, kvs, ex, hne, e1, e2, q1⟩ => wpAny_bind (wpAny_standAt (wpAny_pure ?_)))
  subst ex
  obtain rfl : u = Value.ref a := rx
  obtain ⟨z0, hp0, vs0, r0, dp⟩ := dk_of I1.hok e1
  cases r0
  obtain ⟨z, hdS, vs, rel, dd⟩ := dk_rd I1.hok e2
  refine ⟨a, vs, rfl, hne, hdS, dp, dd, by rw [← rel.length]; exact z, fun h' dd' hs => ?_⟩
  have he : ∃ q, h'.get? s.heap.objs.size = some q := let ⟨q, _, _, hq, _⟩ := dd'; ⟨q, hq⟩
  have I2 := d_write (t' := s1.toks) I1 (by rw [e1]; exact True.intro) hs he (dk_new z hp0 rel dd')
  have hq := I2.hok.fresh (Nat.le_refl h'.objs.size)
  have I3 := I2.laid (a := h'.objs.size) (o := .dK []) (h' := h'.push { cls := .type "dict", data := .dict #[] }) (t' := s1.toks) (fun _ _ q => Heap.get?_push_of_some _ q) (Nat.le_refl _) (dk_empty h' I2.big)
  refine wpAny_subDict (knd := mixKind X.prog X.w) (s := { s1 with heap := h' }) (by simp) ?_
  refine pairTrees_cons_walk (ks := []) (vs := []) (thn (hk.run pins _ σ _ _ I3 (q1 _ hq)) fun u2 s2 ⟨y, H2, I4, ry, q2⟩ => thn (hv.run pins s2 σ H2 _ I4 q2) fun u3 s3 ⟨zz, H3, I5, rz, e3, e4, hlt, kk, ey, q3⟩ => pairTrees_nil_walk ?_)
  subst ey
  obtain ⟨z5, hq5, vs5, r5, dq⟩ := dk_of I5.hok e3
  cases r5
  refine ⟨[(kk, u3)], ⟨kV_is ry, rfl, trivial⟩, dq, fun h5 dd5 hs5 => ?_⟩
  have he5 : ∃ q, h5.get? h'.objs.size = some q := let ⟨q, _, _, hq, _⟩ := dd5; ⟨q, hq⟩
  have rel5 : KV [(kk, zz)] (merged [] [(kk, u3)]) := .cons ⟨rfl, rz⟩ .nil
  have I6 := d_write (t' := s3.toks + 1) I5 (by rw [e3]; exact True.intro) hs5 he5 (dk_new (by rw [sizeLine_eq, List.length_singleton]; decide) hq5 rel5 dd5)
  have hpq : s.heap.objs.size ≠ h'.objs.size := fun z => by
    rw [← z, upd_same] at hq; cases hq
  have e4' : upd H3 h'.objs.size (.dK [(kk, zz)]) s.heap.objs.size = some (.dK kvs) := by rw [upd_ne hpq]; exact e4
  obtain ⟨z6, hp6, vs6, r6, dp6⟩ := dk_of I6.hok e4'
  refine ⟨(kk, u3), vs6, dd5, dp6, hpq, hq5, by rw [← r6.length]; exact hlt, fun h7 dd7 hs7 => ?_⟩
  have he7 : ∃ q, h7.get? s.heap.objs.size = some q := let ⟨q, _, _, hq, _⟩ := dd7; ⟨q, hq⟩
  have hl7 : (putK kvs kk zz).length ≤ sizeLine := by have := length_putK kvs kk zz; omega
  exact ⟨.ref _, _, d_write (t' := s3.toks + 1) I6 (by rw [e4']; exact True.intro) hs7 he7 (dk_new hl7 hp6 (r6.put kk rz) dd7), rfl, q3⟩
end

section
variable {S : SA} {X : Cx} {G F G' F' H H' : Hp} {σ : L2.St} {env : DEnv} {d : D} {v : V} {p q : Addr} {Q : VK}
/-- a new object is kept, as it is, for a while -/
theorem Good.hold (g : Good S G F σ H env) (hp : H p = none) (o : HO) : Good S (upd G p o) F σ (upd H p o) env ∧ Ext G F (upd G p o) F := by
  have n := g.no hp
  have nf := g.fg.no n
  obtain ⟨n1, n2⟩ := g.stNe hp
  refine ⟨⟨fun a u e => ?_, g.fg.trans (sub_upd n), ⟨g.st.1, ?_⟩, by rw [upd_ne n1.symm]; exact g.ns, by rw [upd_ne n2.symm]; exact g.nc, g.len, fun i sl e => ?_, g.dist⟩, ⟨sub_upd n, Sub.refl _, fun a h _ => h⟩⟩
  · by_cases z : a = p
    · subst z; rw [upd_same] at e ⊢; exact e
    · rw [upd_ne z] at e ⊢; exact g.kp a u e
  · obtain ⟨_, m, cs, h1, h2, h3⟩ := g.st
    exact ⟨m, cs, by rw [upd_ne n1.symm]; exact h1, by rw [upd_ne n2.symm]; exact h2, h3⟩
  · have r := g.slot i sl e
    cases sl with
    | val d => exact r
    | bor d => obtain ⟨u, q1, q2⟩ := r; exact ⟨u, q1, q2.mono (sub_upd n) (Sub.refl _)⟩
    | own d =>
      obtain ⟨a, h1, h2, h3, h4, h5⟩ := r
      have na : a ≠ p := fun z => g.ownNe hp i d e (by rw [h1, z])
      exact ⟨a, h1, by rw [upd_ne na]; exact h2, h3, h4, ownR_mono (Sub.refl _) (fun o z => by rw [upd_ne na]; exact z) h5⟩
/-- p is nobody's -/
structure Free (S : SA) (σ : L2.St) (env : DEnv) (p : Addr) : Prop where
  n1 : p ≠ S.sa
  n2 : p ≠ S.ca
  own : ∀ (i : Nat) (di : D), env[i]? = some (some (.own di)) → σ[i]? ≠ some (some (.ref p))
  bor : NoBor σ env p
theorem Good.free (g : Good S G F σ H env) (hp : H p = none) : Free S σ env p := ⟨(g.stNe hp).1, (g.stNe hp).2, g.ownNe hp, g.borNe hp⟩
theorem Ext.drop {o : HO} (n : G p = none) (e : Ext (upd G p o) F G' F') : Ext G F (delH G' p) F' := by
  refine ⟨fun a u h => ?_, e.f, fun a h h' => ?_⟩
  · have na : a ≠ p := fun z => by rw [z, n] at h; cases h
    unfold delH; rw [if_neg na]
    exact e.g a u (by rw [upd_ne na]; exact h)
  · have na : a ≠ p := fun z => h' (by rw [z]; exact n)
    exact e.n a h (by rw [upd_ne na]; exact h')
theorem Ext.at_ {o : HO} (e : Ext (upd G p o) F G' F') : G' p = some o := e.g p o upd_same
theorem Ext.atF {o : HO} (nf : F p = none) (e : Ext (upd G p o) F G' F') : F' p = none := e.n p nf (by rw [upd_same]; simp)
theorem Free.ne {t : Bool} {kvs : List (D × D)} {a : Addr} (f : Free S σ env p) (nf : F p = none) (r : RdB S F σ env (.dct t kvs) (.ref a)) : p ≠ a := by
  rintro rfl
  rcases r with r | ⟨i, hs, h⟩
  · cases r with
    | dctK h _ _ => rw [nf] at h; cases h
    | dctT h _ _ => rw [nf] at h; cases h
  · rcases hs with e | e
    · exact f.own i _ e h
    · exact f.bor i _ e h
/-- it is turned, and nobody's still -/
theorem Good.drop {o o' : HO} (g : Good S G F σ H env) (f : Free S σ env p) (hp : G p = some o) (hf : F p = none) : Good S (delH G p) F σ (upd H p o') env := g.chg hp hf f.bor
theorem delH_at (G : Hp) (p : Addr) : delH G p p = none := by unfold delH; rw [if_pos rfl]
theorem Good.put {o' : HO} (g : Good S G F σ H env) (f : Free S σ env p) (hp : G p = none) : Good S G F σ (upd H p o') env := g.swap hp f.n1 f.n2 f.own
theorem Free.fresh {o' : HO} (f : Free S σ env p) (hp : G p = none) (r : OwnR S F (upd H p o') p d) : FreshR S G F σ (upd H p o') env p d := ⟨hp, f.n1, f.n2, f.own, r⟩
def mStar (md mk mv : DE) : DE := fun env => md env >>= fun d => match d with
  | .dct false kvs => if kvs.length < sizeLine then mk env >>= fun k => if k.isKey then mv env >>= fun v => .ret (.dct false (putD kvs k v)) else .fail else .fail
  | _ => .fail
theorem upd_upd_self {H : Hp} {p : Addr} {o o' : HO} : upd (upd H p o) p o' = upd H p o' := by
  funext a
  by_cases z : a = p
  · subst z; rw [upd_same, upd_same]
  · rw [upd_ne z, upd_ne z, upd_ne z]
variable {ed ek ev : Expr} {md mk mv : DE} {pos : Pos}
theorem qstar (hd : QB S X ed md) (hk : QB S X ek mk) (hv : QE S X ev mv) : QF S X (.Dict [none, some ek] [ed, ev] pos) (mStar md mk mv) :=
  pe_weak (pe_star hd hk hv) fun σ H Q ⟨G, F, env, g, q⟩ p hp => by
    obtain ⟨g0, e0⟩ := g.hold hp (.dK [])
    have fp := g.free hp
    have np := g.no hp
    have nfp := g.fg.no np
    refine ⟨_, F, env, g0, M.wp_mono (M.wpb q) fun d q v G1 F1 H1 e1 g1 r1 => ?_⟩
    split at q
    · rename_i kvs
      split at q
      · rename_i hlt
        obtain ⟨a, es, rfl, hrd, rk, zk⟩ := r1.dctK g1
        have nf1 := e1.atF nfp
        have hne := fp.ne nf1 r1
        refine ⟨a, es, rfl, hne, g1.kp _ _ e1.at_, hrd, fun c hc => ?_⟩
        have x1 := e1.drop np
        have g1' : Good S (delH G1 p) F1 σ (upd H1 p (.dK es)) env := g1.drop fp e1.at_ nf1
        have g1'' : Good S (upd (delH G1 p) p (.dK es)) F1 σ (upd H1 p (.dK es)) env ∧ Ext (delH G1 p) F1 (upd (delH G1 p) p (.dK es)) F1 := by
          refine ⟨⟨fun b u e => ?_, g1'.fg.trans (sub_upd (delH_at _ _)), g1'.st, by rw [upd_ne fp.n1.symm]; exact g1'.ns, by rw [upd_ne fp.n2.symm]; exact g1'.nc, g1'.len, fun i sl e => ?_, g1'.dist⟩, ⟨sub_upd (delH_at _ _), Sub.refl _, fun _ h _ => h⟩⟩
          · by_cases z : b = p
            · subst z; rw [upd_same] at e ⊢; exact e
            · rw [upd_ne z] at e; exact g1'.kp b u e
          · have r := g1'.slot i sl e
            cases sl with
            | val d => exact r
            | bor d => obtain ⟨u, q1, q2⟩ := r; exact ⟨u, q1, q2.mono (sub_upd (delH_at _ _)) (Sub.refl _)⟩
            | own d =>
              obtain ⟨b, h1, h2, h3, h4, h5⟩ := r
              have nb : b ≠ p := fun z => fp.own i d e (by rw [h1, z])
              exact ⟨b, h1, by rw [upd_ne nb]; exact h2, h3, h4, h5⟩
        obtain ⟨g2, x2⟩ := g1''
        obtain ⟨g3, x3⟩ := g2.hold hc (.dK [])
        have nc := g2.no hc
        have nfc := g2.fg.no nc
        have fc := g2.free hc
        have hpc : p ≠ c := fun z => by rw [← z, upd_same] at hc; cases hc
        refine ⟨_, F1, env, g3, M.wp_mono (M.wpb q) fun k q u G4 F4 H4 e4 g4 r4 => ?_⟩
        split at q
        · rename_i hkey
          refine ⟨_, F4, env, g4, M.wp_mono (M.wpb q) fun y q w G5 F5 H5 e5 g5 r5 => ?_⟩
          have e45 := e4.trans e5
          have G5c : G5 c = some (.dK []) := e45.at_
          have G5p : G5 p = some (.dK es) := e45.g p _ (by rw [upd_ne hpc]; exact upd_same)
          have F5c : F5 c = none := e45.atF nfc
          have F5p : F5 p = none := e45.n p nf1 (by rw [upd_ne hpc, upd_same]; simp)
          have x45 : Ext (upd (delH G1 p) p (.dK es)) F1 (delH G5 c) F5 := e45.drop nc
          have x5 : Ext (delH G1 p) F1 (delH (delH G5 c) p) F5 := x45.drop (delH_at _ _)
          refine ⟨g5.kp _ _ G5c, g5.kp _ _ G5p, by rw [← rk.len]; exact hlt, ?_⟩
          have rk4 : Rp S F4 k u := by
            rcases r4.elim g4 with r | ⟨_, _, h4⟩
            · exact r
            · exfalso; cases k <;> first | exact h4.elim | cases hkey
          obtain ⟨kk, hkd, rfl⟩ := key_of_isKey hkey rk4
          refine ⟨kk, rfl, ?_⟩
          have g6 := g5.drop (o' := .dK [(kk, w)]) fc G5c F5c
          have dp : delH G5 c p = some (.dK es) := by unfold delH; rw [if_neg hpc]; exact G5p
          have g7 := g6.drop (o' := .dK (putK es kk w)) fp dp F5p
          have rr : RpK S F5 (putD kvs k y) (putK es kk w) := (rk.mono (e45.f)).put hkd r5
          exact (show PostF S G F σ env Q _ from q) p _ F5 _ (x1.trans x5) g7 (fp.fresh (delH_at _ _) ⟨_, upd_same, rr, by rw [← rr.len]; have h1 := putK_le es kk w; have h2 := rr.len; have h3 := rk.len; omega⟩)
        · exact q.elim
      · exact q.elim
    · exact q.elim
end

/-! ### dict(pairs), dict(d) -/
def pairsD : List D → Option (List (D × D))
  | [] => some []
  | .tup [k, v] :: r => if k.isKey then (pairsD r).map ((k, v) :: ·) else none
  | _ :: _ => none
def mergeD (kvs more : List (D × D)) : List (D × D) := more.foldl (fun acc p => putD acc p.1 p.2) kvs
def dDict : List D → M D
  | [.lst xs] => match pairsD xs with
    | some ps => .ret (.dct false (mergeD [] ps))
    | none => .fail
  | [.dct false kvs] => .ret (.dct false kvs)
  | _ => .fail
section
variable {S : SA} {X : Cx} {G F G' F' H H' : Hp} {σ : L2.St} {env : DEnv}
theorem RpK.merge {more : List (D × D)} {ms : List (Key × V)} (r : RpK S F more ms) : ∀ {kvs : List (D × D)} {es : List (Key × V)}, RpK S F kvs es → RpK S F (mergeD kvs more) (mergeK es ms) := by
  induction more generalizing ms with
  | nil => cases r; intro kvs es q; exact q
  | cons p t ih =>
    cases r with
    | cons hk hr ht => intro kvs es q; exact ih ht (q.put hk hr)
theorem pairs_read (s : Sub F H) {K : PySem.W.Frag} : ∀ {xs : List D} {vs : List V} {ps : List (D × D)}, pairsD xs = some ps → RpL S F xs vs → ∃ as kvs, vs = as.map V.ref ∧ PySem.Paired (fun p (kv : Key × V) => SqT K H p [kV kv.1, kv.2]) as kvs ∧ RpK S F ps kvs
  | [], _, ps, e, r => by
    cases r
    simp only [pairsD, Option.some.injEq] at e
    subst e
    exact ⟨[], [], rfl, .nil, .nil⟩
  | x :: xs, _, ps, e, r => by
    cases r with
    | cons r1 r2 =>
      unfold pairsD at e
      split at e
      · rename_i heq; cases heq
      · rename_i k v r' heq
        cases heq
        split at e
        · rename_i hk
          obtain ⟨ps', e1, e2⟩ := Option.map_eq_some_iff.mp e
          subst e2
          cases r1 with
          | tup h1 l1 z1 =>
            cases l1 with
            | cons rk l2 =>
              cases l2 with
              | cons rv l3 =>
                cases l3
                obtain ⟨kk, hkd, rfl⟩ := key_of_isKey hk rk
                obtain ⟨as, kvs, q1, q2, q3⟩ := pairs_read s (K := K) e1 r2
                exact ⟨_ :: as, (kk, _) :: kvs, by rw [List.map_cons, ← q1], .cons (.of (s _ _ h1)) q2, .cons hkd rv q3⟩
        · cases e
      · cases e
theorem c_dict (hc : X.calm = true) : CallF S X (.type "dict") dDict := ⟨_, callR_or (call_dictP hc) call_dictD, fun G F σ H env vs ds Q g r q => by
  unfold dDict at q
  split at q
  · rename_i xs
    split at q
    · rename_i ps hps
      obtain ⟨v, rfl, r1⟩ := rdb1 r
      obtain ⟨p, ys, rfl, h1, l1, z1⟩ := r1.lst g
      obtain ⟨as, kvs, e1, e2, e3⟩ := pairs_read g.fh (K := X.K) hps l1
      subst e1
      refine .inl ⟨p, as, kvs, rfl, .of h1, e2, fun a hn => ?_⟩
      have rr : RpK S F (mergeD [] ps) (mergeK [] kvs) := e3.merge .nil
      exact (show PostF S G F σ env Q (.dct false (mergeD [] ps)) from q) a G F _ (Ext.refl _ _) (g.new hn _) ((g.free hn).fresh (g.no hn) ⟨_, upd_same, rr, by
        have h2 := length_mergeK kvs []
        have h3 : as.length = kvs.length := e2.length
        rw [List.length_map] at z1
        rw [List.length_nil] at h2
        omega⟩)
    · exact q.elim
  · rename_i kvs
    obtain ⟨v, rfl, r1⟩ := rdb1 r
    obtain ⟨p, es, rfl, hrd, rk, zk⟩ := r1.dctK g
    exact .inr ⟨p, es, rfl, hrd, fun a hn => (show PostF S G F σ env Q (.dct false kvs) from q) a G F _ (Ext.refl _ _) (g.new hn _) ((g.free hn).fresh (g.no hn) ⟨_, upd_same, rk, zk⟩)⟩
  · exact q.elim⟩
end
end DL

set_option Elab.async false
set_option linter.all false
set_option maxRecDepth 100000
/-! DN1: dicts with nested keys, by trees. -/
namespace DL
open PySem PySem.Spec L2
open PyProof.Rows hiding St
section
variable {S : SA} {X : Cx} {G F G' F' H H' : Hp} {σ : L2.St} {env : DEnv} {d e : D} {v u : V} {p : Addr} {Q : VK}
mutual
theorem Rp.nat : ∀ {d : D} {v : V} {k : NestedKey}, Rp S F d v → D.nk d = some k → NAt F k v
  | .non, _, k, r, h => by cases r; simp [D.nk] at h; subst h; exact .none
  | .int i, _, k, r, h => by cases r; simp [D.nk] at h; subst h; exact .num i
  | .str x, _, k, r, h => by cases r; simp [D.nk] at h; subst h; exact .text x
  | .tup xs, _, k, r, h => by
    cases r with
    | tup h1 h2 h3 =>
      simp only [D.nk, Option.map_eq_some_iff] at h
      obtain ⟨ks, e, rfl⟩ := h
      exact .tup h1 (RpL.nat h2 e)
  | .bl _, _, _, _, h => by simp [D.nk] at h
  | .lst _, _, _, _, h => by simp [D.nk] at h
  | .dct _ _, _, _, _, h => by simp [D.nk] at h
  | .dcn _, _, _, _, h => by simp [D.nk] at h
  | .stt, _, _, _, h => by simp [D.nk] at h
theorem RpL.nat : ∀ {ds : List D} {vs : List V} {ks : List NestedKey}, RpL S F ds vs → D.nkL ds = some ks → NAtL F ks vs
  | [], _, ks, r, h => by cases r; simp [D.nkL] at h; subst h; exact .nil
  | x :: xs, _, ks, r, h => by
    cases r with
    | cons r t =>
      rw [D.nkL] at h
      cases h1 : D.nk x with
      | none => rw [h1] at h; simp at h
      | some k1 =>
        cases h2 : D.nkL xs with
        | none => rw [h1, h2] at h; simp at h
        | some k2 =>
          rw [h1, h2] at h
          simp at h
          subst h
          exact .cons (Rp.nat r h1) (RpL.nat t h2)
end
mutual
theorem nk_beq : ∀ (d e : D) {k l : NestedKey}, D.nk d = some k → D.nk e = some l → D.beq d e = decide (k = l)
  | .non, e, k, l, h, h' => by
    simp [D.nk] at h; subst h
    cases e <;> simp [D.nk] at h' <;> first | (subst h'; simp [D.beq]) | (obtain ⟨_, _, rfl⟩ := h'; simp [D.beq])
  | .int i, e, k, l, h, h' => by
    simp [D.nk] at h; subst h
    cases e <;> simp [D.nk] at h' <;> first | (subst h'; simp [D.beq]) | (obtain ⟨_, _, rfl⟩ := h'; simp [D.beq])
  | .str i, e, k, l, h, h' => by
    simp [D.nk] at h; subst h
    cases e <;> simp [D.nk] at h' <;> first | (subst h'; simp [D.beq]) | (obtain ⟨_, _, rfl⟩ := h'; simp [D.beq])
  | .tup xs, e, k, l, h, h' => by
    simp only [D.nk, Option.map_eq_some_iff] at h
    obtain ⟨ks, e1, rfl⟩ := h
    cases e with
    | tup ys =>
      simp only [D.nk, Option.map_eq_some_iff] at h'
      obtain ⟨ls, e2, rfl⟩ := h'
      rw [D.beq, nkL_beq xs ys e1 e2]
      by_cases z : ks = ls <;> simp [z]
    | _ => simp [D.nk] at h' <;> (subst h'; simp [D.beq])
  | .bl _, _, _, _, h, _ => by simp [D.nk] at h
  | .lst _, _, _, _, h, _ => by simp [D.nk] at h
  | .dct _ _, _, _, _, h, _ => by simp [D.nk] at h
  | .dcn _, _, _, _, h, _ => by simp [D.nk] at h
  | .stt, _, _, _, h, _ => by simp [D.nk] at h
theorem nkL_beq : ∀ (d e : List D) {k l : List NestedKey}, D.nkL d = some k → D.nkL e = some l → D.beqL d e = decide (k = l)
  | [], e, k, l, h, h' => by
    simp [D.nkL] at h; subst h
    cases e with
    | nil => simp [D.nkL] at h'; subst h'; simp [D.beqL]
    | cons y ys =>
      rw [D.nkL] at h'
      split at h'
      · simp at h'; subst h'; simp [D.beqL]
      · cases h'
  | x :: xs, e, k, l, h, h' => by
    rw [D.nkL] at h
    split at h
    · rename_i k1 k2 q1 q2
      simp at h; subst h
      cases e with
      | nil => simp [D.nkL] at h'; subst h'; simp [D.beqL]
      | cons y ys =>
        rw [D.nkL] at h'
        split at h'
        · rename_i l1 l2 q3 q4
          simp at h'; subst h'
          rw [D.beqL, nk_beq x y q1 q3, nkL_beq xs ys q2 q4]
          by_cases z1 : k1 = l1 <;> by_cases z2 : k2 = l2 <;> simp [z1, z2]
        · cases h'
    · cases h
end
theorem RpN.val : ∀ {kvs : List (D × D)} {es : List NE} {d : D} {k : NestedKey}, RpN S F kvs es → D.nk d = some k → RpO S F (valD kvs d) (valN es k)
  | _, _, _, _, .nil, _ => trivial
  | _, _, d, k, .cons (kd := kd) (k := k') (b := b) (v := v) (es := es) hk hn hl hr ht, h => by
    have ih := RpN.val ht h
    unfold valD valN at ih ⊢
    rw [List.find?_cons]
    simp only
    rw [nk_beq kd d hn h, List.map_cons]
    by_cases z : k' = k
    · rw [decide_eq_true z, valV_pos (p := (k', v)) z]; exact hr
    · rw [decide_eq_false z, valV_neg (p := (k', v)) z]; exact ih
theorem valD_any (d : D) : ∀ kvs : List (D × D), kvs.any (fun p => D.beq p.1 d) = (valD kvs d).isSome
  | [] => rfl
  | p :: r => by
    have ih := valD_any d r
    unfold valD at ih ⊢
    rw [List.any_cons, List.find?_cons, ih]
    cases D.beq p.1 d <;> simp
theorem RpN.mapPut {d e : D} {k : NestedKey} {u : V} (hk : D.nk d = some k) (hr : Rp S F e u) : ∀ {kvs : List (D × D)} {es : List NE}, RpN S F kvs es → RpN S F (kvs.map fun p => if D.beq p.1 d then (p.1, e) else p) (es.map fun x => if x.1 = k then (x.1, x.2.1, u) else x)
  | _, _, .nil => .nil
  | _, _, .cons (kd := kd) (k := k') h1 h2 h3 h4 ht => by
    rw [List.map_cons, List.map_cons]
    simp only [nk_beq kd d h2 hk]
    by_cases z : k' = k
    · rw [if_pos z]; simp only [z, decide_true, if_true]; exact .cons h1 (by rw [h2, z]) (by rw [← z]; exact h3) hr (RpN.mapPut hk hr ht)
    · rw [if_neg z]; simp only [z, decide_false]; exact .cons h1 h2 h3 h4 (RpN.mapPut hk hr ht)
theorem RpN.append : ∀ {kvs more : List (D × D)} {es ms : List NE}, RpN S F kvs es → RpN S F more ms → RpN S F (kvs ++ more) (es ++ ms)
  | _, _, _, _, .nil, s => s
  | _, _, _, _, .cons a b c d t, s => .cons a b c d (RpN.append t s)
theorem RpN.len : ∀ {kvs : List (D × D)} {es : List NE}, RpN S F kvs es → kvs.length = es.length
  | _, _, .nil => rfl
  | _, _, .cons _ _ _ _ t => congrArg (· + 1) (RpN.len t)
theorem RpN.put {kvs : List (D × D)} {es : List NE} {d e : D} {k : NestedKey} {b : Addr} {u : V} (r : RpN S F kvs es) (hd : Rp S F d (.ref b)) (hk : D.nk d = some k) (h8 : k.depth ≤ 8) (hr : Rp S F e u) : RpN S F (putD kvs d e) (putN es k b u) := by
  unfold putD putN
  have e0 : kvs.any (fun p => D.beq p.1 d) = (valN es k).isSome := by rw [valD_any, (r.val hk).isSome]
  rw [e0]
  split
  · exact RpN.mapPut hk hr r
  · exact r.append (.cons hd hk h8 hr .nil)
theorem RpN.ks (s : Sub F H) : ∀ {kvs : List (D × D)} {es : List NE}, RpN S F kvs es → KsN H es
  | _, _, .nil => fun x h => absurd h (by simp)
  | _, _, .cons a b c _ t => fun x h => by
    rcases List.mem_cons.mp h with rfl | h
    · exact ⟨(a.nat b).mono s, c⟩
    · exact RpN.ks s t x h
def keyOkN : D → Bool
  | .tup xs => match D.nk (.tup xs) with
    | some k => decide (k.depth ≤ 8)
    | none => false
  | _ => false
theorem keyOkN_elim (h : keyOkN d = true) : ∃ xs k, d = .tup xs ∧ D.nk d = some k ∧ k.depth ≤ 8 := by
  cases d with
  | tup xs =>
    cases q : D.nk (.tup xs) with
    | none => simp only [keyOkN, q] at h; cases h
    | some k => simp only [keyOkN, q] at h; exact ⟨xs, k, rfl, rfl, of_decide_eq_true h⟩
  | _ => cases h
theorem RdB.dcn {kvs : List (D × D)} (g : Good S G F σ H env) (h : RdB S F σ env (.dcn kvs) v) : ∃ p es, v = .ref p ∧ Rd H p (DnO S.pr S.wd p es) ∧ RpN S F kvs es ∧ es.length ≤ sizeLine := by
  rcases h.elim g with h | ⟨a, rfl, es, h4, h5, h6⟩
  · cases h with
    | dcn h1 h2 h3 => exact ⟨_, _, rfl, .inr ⟨_, g.fh _ _ h1⟩, h2, h3⟩
  · exact ⟨_, es, rfl, .inl h4, h5, h6⟩
theorem dgetN_of {kvs : List (D × D)} (g : Good S G F σ H env) (r1 : RdB S F σ env (.dcn kvs) v) (r2 : RdB S F σ env d u) (hk : keyOkN d = true) : ∃ a o, v = .ref a ∧ DGetN S.pr S.wd H a u o ∧ IsN S.pr S.wd H a ∧ RpO S F (valD kvs d) o := by
  obtain ⟨xs, k, rfl, hn, h8⟩ := keyOkN_elim hk
  have r2 := r2.rp g rfl
  obtain ⟨p, es, rfl, h1, h2, _⟩ := r1.dcn g
  cases r2 with
  | tup f1 f2 f3 =>
    have nat := (Rp.tup f1 f2 f3).nat hn
    exact ⟨p, _, rfl, ⟨es, k, _, h1, h2.ks g.fh, rfl, nat.mono g.fh, h8, rfl⟩, ⟨es, h1, h2.ks g.fh⟩, h2.val hn⟩
def mNewN : DE := fun _ => .ret (.dcn [])
theorem qnewN {pos : Pos} (hS : S.pr = X.prog ∧ S.wd = X.w) : QF S X (.Dict [] [] pos) mNewN := pe_weak pe_dnewN fun σ H Q ⟨G, F, env, g, q⟩ p hp =>
  (show PostF S G F σ env Q (.dcn []) from q) p G F _ (Ext.refl _ _) (g.new hp _) ⟨g.no hp, (g.stNe hp).1, (g.stNe hp).2, g.ownNe hp, [], by rw [hS.1, hS.2]; exact upd_same, .nil, Nat.zero_le _⟩
section
variable {a b e o : Expr} {m ma mb mk mv mx : DE} {i : Nat} {pos : Pos}
def mPutN (i : Nat) (mk mv : DE) : DS := fun env => mv env >>= fun d => mk env >>= fun k => match env[i]? with
  | some (some (.own (.dcn kvs))) => if keyOkN k && decide (kvs.length < sizeLine) then .ret (.nx, env.set i (some (.own (.dcn (putD kvs k d))))) else .fail
  | _ => .fail
theorem qputN (i : Nat) {x : Str} {np tpos : Pos} (hS : S.pr = X.prog ∧ S.wd = X.w) (hu : X.A.units + 64 < cLine) (hk : QB S X b mk) (hv' : QE S X e mv) (hN : X.N[i]? = some x := by rfl) (hv : Vis X.env.scope x := by first | exact Or.inl rfl | exact Or.inr (Or.inl rfl) | exact Or.inr (Or.inr rfl)) (hd : (x == ("__debug__" : Str)) = false := by decide)
    (hcd : (x == ("__classdict__" : Str)) = false := by decide) (hs : swapsWith e (some (.Subscript (.Name x np) b tpos)) pos.line X.env = pure false := by rfl) : QS S X (.Assign [.Subscript (.Name x np) b tpos] e pos) (mPutN i mk mv) :=
  ps_weak (ps_dputN hu (pe_var hN hv hd hcd) hk hv' hs) fun D' σ H ⟨G, F, env, g, q⟩ => by
    refine ⟨G, F, env, g, M.wp_mono (M.wpb q) fun d q v G1 F1 H1 e1 g1 r1 => ?_⟩
    obtain ⟨kvs, e⟩ : ∃ kvs, env[i]? = some (some (.own (.dcn kvs))) := wp_det (M.wpb q) fun a h => by
      split at h
      · rename_i kvs e; exact ⟨kvs, e⟩
      · exact h.elim
    obtain ⟨a, ha', _⟩ := g1.slot i _ e
    have q' := M.wpb q
    rw [e] at q'
    refine ⟨.ref a, ha', G1, F1, env, g1, M.wp_mono q' fun k q u G2 F2 H2 e2 g2 r2 => ?_⟩
    simp only at q
    split at q
    · rename_i hc
      rw [Bool.and_eq_true, decide_eq_true_eq] at hc
      obtain ⟨b, b1, b2, b3, b4, es, o1, o2, o3⟩ := g2.slot i _ e
      rw [ha'] at b1
      cases b1
      obtain ⟨xs, kk, rfl, hn, h8⟩ := keyOkN_elim hc.1
      have r2 := r2.rp g2 rfl
      have n := o2.len
      have nz : es.length < sizeLine := by omega
      cases r2 with
      | tup f1 f2 f3 =>
        have rt := Rp.tup (S := S) f1 f2 f3
        refine ⟨a, _, rfl, ⟨es, kk, _, by rw [← hS.1, ← hS.2]; exact o1, o2.ks g2.fh, rfl, (rt.nat hn).mono g2.fh, h8, nz, rfl⟩, q _ G2 F2 _ (e1.trans e2) (g2.ownPut e ha' ⟨_, by rw [hS.1, hS.2]; exact upd_same, o2.put rt hn h8 (r1.mono e2.f), ?_⟩)⟩
        have := putN_le es kk (by assumption) v
        omega
    · exact q.elim
def mGetN (mo mk mx : DE) : DE := fun env => mo env >>= fun o => match o with
  | .dcn kvs => mk env >>= fun k => mx env >>= fun x => if keyOkN k then .ret ((valD kvs k).getD x) else .fail
  | _ => .fail
theorem qgetN {apos cpos : Pos} (hS : S.pr = X.prog ∧ S.wd = X.w) (hu : X.A.units + 64 < cLine) (ho : QB S X o m) (hk : QB S X a ma) (hx : QE S X b mb) (hbase : attributeBase o "get" X.env (eval o X.env) = eval o X.env := by rfl)
    (hfew : ((backTo cpos (starEach [a, b] X.env)).all (fun x => !x.1) && (backToKw cpos (keywordEach [] X.env)).all (fun x => x.1.isSome)
      && decide (([a, b] : List Expr).length + ([] : List Keyword).length + (if ([] : List Keyword).isEmpty then 0 else 1) < 30)) = true := by rfl)
    (hline : (apos.endLine == cpos.line) = true := by rfl) (htr : backTo cpos (starEach [a, b] X.env) = [(false, eval a X.env), (false, eval b X.env)] := by rfl) : QE S X (.Call (.Attribute o "get" apos) [a, b] [] cpos) (mGetN m ma mb) :=
  pe_weak (pe_dget2N hu ho hk hx ⟨hbase, hfew, hline, htr⟩) fun σ H Q ⟨G, F, env, g, q⟩ => ⟨G, F, env, g, M.wp_mono (M.wpb q) fun d q v G1 F1 H1 e1 g1 r1 => by
    cases d with
    | dcn kvs =>
      obtain ⟨a, es, rfl, hd, hr, _⟩ := r1.dcn g1
      refine ⟨a, rfl, ⟨es, by rw [← hS.1, ← hS.2]; exact hd, hr.ks g1.fh⟩, G1, F1, env, g1, M.wp_mono (M.wpb q) fun k q u G2 F2 H2 e2 g2 r2 => ⟨G2, F2, env, g2, M.wp_mono (M.wpb q) fun x q z G3 F3 H3 e3 g3 r3 => ?_⟩⟩
      split at q
      · obtain ⟨a', ov, ea, dg, _, ro⟩ := dgetN_of g3 (r1.mono (e2.f.trans e3.f)) (r2.mono e3.f) (by assumption)
        cases ea
        refine ⟨ov, by rw [← hS.1, ← hS.2]; exact dg, (post_shift (e1.trans (e2.trans e3)) q).now g3 ?_⟩
        cases ov with
        | none =>
          cases hh : valD kvs k with
          | none => exact r3
          | some w => rw [hh] at ro; exact ro.elim
        | some w =>
          cases hh : valD kvs k with
          | none => rw [hh] at ro; exact ro.elim
          | some w' => rw [hh] at ro; exact ro
      · exact q.elim
    | _ => exact q.elim⟩
def dIxN : D → D → M D
  | .dcn kvs, k => if keyOkN k then M.opt (valD kvs k) else .fail
  | _, _ => .fail
end
end
end DL

set_option Elab.async false
set_option linter.all false
set_option maxRecDepth 100000
/-! DN2: dicts with nested keys: d[k], sorted(d). -/
namespace DL
open PySem PySem.Spec L2
open PyProof.Rows hiding St
section
variable {S : SA} {X : Cx} {G F G' F' H H' : Hp} {σ : L2.St} {env : DEnv} {d e : D} {v u : V} {p : Addr} {Q : VK}
theorem qixN {a b : Expr} {ma mb : DE} {pos : Pos} (hS : S.pr = X.prog ∧ S.wd = X.w) (hu : X.A.units + 64 < cLine) (ha : QB S X a ma) (hb : QB S X b mb) (hs : PlainIx b := by intro _ _; rfl) : QE S X (.Subscript a b pos) (mBin dIxN ma mb) :=
  pe_weak (pe_ix (ix_dcn hu) ha hb hs) fun σ H Q ⟨G, F, env, g, q⟩ => two ma mb (PP := fun G F => Post S G F σ env Q) g q (fun _ _ _ _ _ => post_shift) fun G F H x y d e g r1 r2 q => by
    cases d with
    | dcn kvs =>
      have q' : (if keyOkN e then M.opt (valD kvs e) else M.fail).wp (Post S G F σ env Q) := q
      split at q'
      · obtain ⟨w, hw, q2⟩ := M.wp_opt q'
        obtain ⟨a, o, e1, e2, _, e3⟩ := dgetN_of g r1 r2 (by assumption)
        rw [hw] at e3
        cases o with
        | none => exact e3.elim
        | some u => exact ⟨a, u, e1, by rw [← hS.1, ← hS.2]; exact e2, q2.now g e3⟩
      · exact q'.elim
    | _ => exact q.elim
/-! ### sorted(d) -/
def rSortedN (P : Program) (w : World) (K : PySem.W.Frag) : List V → Hp → VK → Prop := fun vs H Q => ∃ (a : Addr) (es : List NE) (ds : List D), vs = [V.ref a] ∧ Rd H a (DnO P w a es) ∧ KsN H es ∧ DpAll K H (es.map fun x => V.ref x.2.1) (D.pyL ds) ∧ srtOk ds = true ∧
  ∀ (ps : List (V × D)) (p : Addr), ps.Perm ((es.map fun x => V.ref x.2.1).zip ds) → ps.map (·.2) = sortD ds → H p = none → Q (.ref p) (upd H p (.lst (ps.map (·.1))))
theorem NT.keys : ∀ {es : List NE} {xs : List (NestedKey × Addr × Value)}, NT es xs → (es.map fun x => x.2.1) = xs.map fun x => x.2.1
  | _, _, .nil => rfl
  | _, _, .cons h t => by rw [List.map_cons, List.map_cons, h.2.1, NT.keys t]
theorem vals_refs : ∀ bs : List Addr, Vals (bs.map V.ref) (bs.map Value.ref)
  | [] => .nil
  | b :: bs => .cons rfl (vals_refs bs)
theorem each_fresh {h : Heap} {a : Addr} (ha : h.get? a = none) : ∀ {us : List Value} {ps : List (V × D)}, PySem.W.EachIs (fun (u : Value) (p : V × D) => ∃ as, Reads h u p.2.py as) us ps → PySem.W.EachIs (fun (u : Value) (p : V × D) => ∃ as, Reads h u p.2.py as ∧ a ∉ as) us ps :=
  fun e => e.mono fun u p ⟨as, r⟩ => ⟨as, r, fun hm => by
    obtain ⟨o, ho⟩ := PyProof.On.readsAll_mem_get (h := h) (vs := [u]) (ds := [p.2.py]) (as := as ++ []) (.cons r .nil) a (by simpa using hm)
    rw [ha] at ho; cases ho⟩
theorem cr_sortedN (hc : X.calm = true) (hu : X.A.units + 64 < cLine) : CallR X (.builtin "sorted") (rSortedN X.prog X.w X.K) := by
  intro pins s σ H vs us Q I r h
  obtain ⟨a, es, ds, rfl, hd, hks, hdp, ho, q⟩ := h
  rw [Vals.ref1 r]
  obtain ⟨z, lo, xs, rel, o, es', ep, h1, h2, h3, h4, _, _⟩ := dn_rd I.hok hd hks
  have raw : s.heap.DictRaw a es' ep := ⟨o, h1, h2, h3⟩
  have hsz : es'.size = es.length := by
    have e := congrArg List.length h4
    rw [Array.length_toList, List.length_map] at e
    rw [e]; exact (Paired.length rel).symm
  have h16 : es'.size ≤ sizeLine := by rw [hsz]; exact z
  refine Calls.call_function_entry PyProof.Rows.kind_sorted PyProof.Rows.plain_sorted PyProof.Rows.entry_sorted (PyProof.Rows.args_sorted1 _) ?_
  unfold Builtin.«sorted»
  refine wpAny_bind (m := checkCount "sorted" 1 1 _) (wpAny_pure ?_)
  refine wpAny_bind (PySem.W.kdu_collect (A := X.A.in1) (KdlSrc.rawDict lo) (I.ok.hd hc) raw h16 fun h' tk acc hk hacc => ?_)
  have hal : acc.toList = (es.map fun x => x.2.1).map Value.ref := by
    apply List.ext_getElem?
    intro j
    have hj : acc.toList.length = es.length := by rw [Array.length_toList, hacc.1, hsz]
    by_cases hlt : j < es.length
    · obtain ⟨v, hv⟩ : ∃ v, acc.toList[j]? = some v := ⟨_, List.getElem?_eq_getElem (by omega)⟩
      obtain ⟨hi, e2⟩ := hacc.2 j v (by rw [← Array.getElem?_toList]; exact hv)
      rw [hv, e2]
      have e3 : es'.toList[j]? = (xs.map (entryOfKey (nestedKind X.prog X.w)))[j]? := by rw [h4]
      have e4 : es'.toList[j]? = some es'[j] := by rw [Array.getElem?_toList]; exact Array.getElem?_eq_getElem hi
      rw [e4, List.getElem?_map] at e3
      have e5 : (es.map fun x => x.2.1)[j]? = (xs.map fun x => x.2.1)[j]? := by rw [NT.keys rel]
      rw [List.getElem?_map, e5, List.getElem?_map]
      cases hx : xs[j]? with
      | none => rw [hx] at e3; cases e3
      | some x =>
        rw [hx] at e3
        have e6 := Option.some.inj e3
        rw [e6]; rfl
    · rw [List.getElem?_eq_none (by omega), List.getElem?_eq_none (by rw [List.length_map, List.length_map]; omega)]
  have hlen : acc.toList.length = es.length := by rw [hal, List.length_map, List.length_map]
  have I1 : Inv X pins σ H { s with heap := h', toks := tk } := I.kept hk
  refine wpAny_bind (wpAny_newList ?_ (by rw [hlen]; exact z))
  have hoL : (h'.push (seqObj "list" acc.toList.toArray 0)).get? h'.objs.size = some (seqObj "list" acc.toList.toArray 0) := Heap.get?_push_size _ rfl
  show wpAny _ _ _ _ _ { s with heap := h'.push (seqObj "list" acc.toList.toArray 0), toks := tk }
  have I2 : Inv X pins σ H { s with heap := h'.push (seqObj "list" acc.toList.toArray 0), toks := tk } := I.kept fun b o e => Heap.get?_push_of_some _ (hk b o e)
  let ys := es.map fun x => V.ref x.2.1
  have eys : ys = (es.map fun x => x.2.1).map V.ref := by simp [ys]
  have rv : Vals ys acc.toList := by rw [hal, eys]; exact vals_refs _
  have hyl : ys.length = ds.length := by
    have := dpAll_len hdp
    rw [this, D.pyL_map, List.length_map]
  obtain ⟨as, hr⟩ := Dp.readsAll I1 (D.pyL ds) ys acc.toList hdp rv
  have er0 := each_fresh (a := h'.objs.size) (by
    cases hg : h'.get? h'.objs.size with
    | none => rfl
    | some ob => exact absurd (Heap.lt_size hg) (Nat.lt_irrefl _)) (each_reads hr hyl)
  have er : PySem.W.EachIs (fun (u : Value) (p : V × D) => ∃ as, Reads (h'.push (seqObj "list" acc.toList.toArray 0)) u p.2.py as ∧ h'.objs.size ∉ as) acc.toList (ys.zip ds) := er0.mono fun u p ⟨as, r, n⟩ => ⟨as, PyProof.Rows.Reads.keeps (fun _ _ e => Heap.get?_push_of_some _ e) r, n⟩
  have hb := zip_snd ys ds hyl
  have hm : (ys.zip ds).map (fun p : V × D => p.2.py) = ds.map D.py := by
    conv => rhs; rw [← hb]
    rw [List.map_map] <;> rfl
  refine wpAny_bind (wpAny_holding (PySem.W.list_sort_data (s := { s with heap := h'.push (seqObj "list" acc.toList.toArray 0), toks := tk }) (enc := fun p : V × D => p.2.py) (vs := acc.toList) hoL (each_zip (K := X.K) rv hyl) er (by rw [hm]; exact srt_alike ho) (by rw [hm]; exact srt_sortable ho)
    (by rw [List.length_zip, hyl, Nat.min_self, ← hyl]; simp only [ys, List.length_map]; exact z) (fun b hb' => ?_) fun out e1 e2 => ?_))
  · have : b.2 ∈ ds := by rw [← hb]; exact List.mem_map.mpr ⟨b, hb', rfl⟩
    have h60 := D.dep 60 b.2 (srtOk_pl ho _ this)
    simp only [Around.in1_units]
    omega
  · have hp := List.mergeSort_perm (ys.zip ds) (PySem.W.dataLe false fun p : V × D => p.2.py)
    obtain ⟨ep2, he'⟩ := PyProof.Rows.sortedHeap_at (vs := acc.toList) (out := out.toArray) hoL
    have hl2 : (((ys.zip ds).mergeSort (PySem.W.dataLe false fun p : V × D => p.2.py)).map (·.1)).length ≤ sizeLine := by
      rw [List.length_map, hp.length_eq, List.length_zip, hyl, Nat.min_self, ← hyl]; simp only [ys, List.length_map]; exact z
    refine wpAny_pure ⟨_, rfl, .ref h'.objs.size, upd H h'.objs.size (.lst (((ys.zip ds).mergeSort (PySem.W.dataLe false fun p : V × D => p.2.py)).map (·.1))), I1.laid (t' := tk) (fun b u e => ?_) (Nat.le_refl _) ⟨hl2, out, ep2, each_vals e2, he'⟩, rfl,
      q _ _ hp (srtd_merge ds _ hb ho) (I1.hok.fresh (Nat.le_refl _))⟩
    have hbl : b < h'.objs.size := Heap.lt_size e
    rw [PyProof.Rows.sortedHeap_old (Nat.ne_of_lt hbl) (by rw [size_push']; exact Nat.lt_succ_of_lt hbl)]
    exact Heap.get?_push_of_some _ e
def dSortedN : List D → M D
  | [.dcn kvs] => if srtOk (kvs.map (·.1)) then .ret (.lst (sortD (kvs.map (·.1)))) else .fail
  | _ => .fail
theorem RpN.keys : ∀ {kvs : List (D × D)} {es : List NE}, RpN S F kvs es → RpL S F (kvs.map (·.1)) (es.map fun x => V.ref x.2.1)
  | _, _, .nil => .nil
  | _, _, .cons a _ _ _ t => .cons a (RpN.keys t)
theorem c_sortedN (hS : S.pr = X.prog ∧ S.wd = X.w) (hc : X.calm = true) (hu : X.A.units + 64 < cLine) : CallF S X (.builtin "sorted") dSortedN := ⟨_, cr_sortedN hc hu, fun G F σ H env vs ds Q g r q => by
  unfold dSortedN at q
  split at q
  · rename_i kvs
    split at q
    · rename_i ho
      obtain ⟨v, rfl, r1⟩ := rdb1 r
      obtain ⟨p, es, rfl, h1, l1, z1⟩ := r1.dcn g
      have hpl : D.plL 60 (kvs.map (·.1)) = true := by
        unfold srtOk at ho; simp only [Bool.and_eq_true] at ho; exact ho.1.1
      have hd : DpAll X.K H (es.map fun x => V.ref x.2.1) (D.pyL (kvs.map (·.1))) := (RpL.dp (K := X.K) g.fh 60 _ hpl l1.keys).1
      refine ⟨p, es, kvs.map (·.1), rfl, by rw [← hS.1, ← hS.2]; exact h1, l1.ks g.fh, hd, ho, fun ps a hp he hn => ?_⟩
      have hr : RpL S F (sortD (kvs.map (·.1))) (ps.map (·.1)) := by
        rw [← he]
        exact RpL.of_mem fun z hz => l1.keys.zip_mem z (hp.mem_iff.mp hz)
      exact PostF.lst (show PostF S G F σ env Q (.lst (sortD (kvs.map (·.1)))) from q) g hn hr (by rw [List.length_map, hp.length_eq, List.length_zip, List.length_map]; omega)
    · exact q.elim
  · exact q.elim⟩
end
end DL

set_option Elab.async false
set_option linter.all false
set_option maxRecDepth 100000
/-! DN3: dicts with nested keys: walks over keys and pairs, {k: v}; sorted of tuples. -/
namespace DL
open PySem PySem.Spec L2
open PyProof.Rows hiding St
section
variable {X : Cx} {pins : List (Addr × Obj)} {σ : L2.St} {H : Hp} {s : Shared} {d : Addr} {o : Obj}
theorem frzN {es : List NE} (I : Inv X pins σ H s) (h : H d = some (.frz o (DnO X.prog X.w d es))) :
    (d == sysModules) = false ∧ s.heap.get? d = some o ∧ o.ExactDict ∧ ∃ (as : Array DictEntry) (ep : Nat), o.data = .dict as ep ∧ as.size = es.length ∧
      ∀ (i : Nat) (k : NestedKey) (b : Addr) (v : V), es[i]? = some (k, b, v) → ∃ hi : i < as.size, as[i].key = .ref b ∧ RelV v as[i].val := by
  obtain ⟨hd, ⟨z, hs, xs, pr, o', as, ep, ho, hx, hdt, he, _⟩, _⟩ := (show ObjOk X.prog X.w H s.heap d (.frz o (DnO X.prog X.w d es)) from I.hok d _ h)
  rw [hd] at ho
  cases ho
  have l1 : as.size = xs.length := by
    have e := congrArg List.length he
    rw [Array.length_toList, List.length_map] at e
    exact e
  have l2 : es.length = xs.length := Paired.length pr
  refine ⟨hs, hd, hx, as, ep, hdt, by omega, fun i k b v e => ?_⟩
  obtain ⟨y, hy, e1, e2, e3⟩ := paired_get pr e
  have hi : i < as.size := by rw [l1]; exact (List.getElem?_eq_some_iff.mp hy).1
  have q : as.toList[i]? = (xs.map (entryOfKey (nestedKind X.prog X.w)))[i]? := by rw [he]
  rw [List.getElem?_map, hy, Array.getElem?_toList, Array.getElem?_eq_getElem hi] at q
  have q2 := Option.some.inj q
  refine ⟨hi, by rw [q2]; show Value.ref y.2.1 = Value.ref b; rw [← e2], by rw [q2]; exact e3⟩
end
def ItkN (P : Program) (w : World) (d : Addr) (o : Obj) (es : List NE) : It :=
  ⟨fun i H => H d = some (.frz o (DnO P w d es)) ∧ i < es.length, fun i H x H' => H' = H ∧ ∃ k b v, es[i]? = some (k, b, v) ∧ x = .ref b, fun i H => H d = some (.frz o (DnO P w d es)) ∧ es.length ≤ i⟩
def ItiN (P : Program) (w : World) (d : Addr) (o : Obj) (es : List NE) : It :=
  ⟨fun i H => H d = some (.frz o (DnO P w d es)) ∧ i < es.length, fun i H x H' => ∃ T k b v, es[i]? = some (k, b, v) ∧ x = .ref T ∧ H T = none ∧ H' = upd H T (.tup [.ref b, v]), fun i H => H d = some (.frz o (DnO P w d es)) ∧ es.length ≤ i⟩
section
variable {P : Program} {w : World} {K : PySem.W.Frag} {tg : Expr} {d : Addr} {o : Obj} {as : Array DictEntry} {ep : Nat}
theorem turn_keysN {es : List NE} (it : Addr) (hod : o.data = .dict as ep) : Turn P w K tg (ItkN P w d o es) [it] it (fun i h => h.IsKeyIter it d i es.length ep) where
  mem := by simp
  obj := fun i h st b hb => by
    have e : b = it := by simpa using hb
    subst e
    obtain ⟨oi, e, c, dd⟩ := st
    exact ⟨oi, e, fun v z => by rw [dd] at z; cases z⟩
  keep := fun i h h' st k => st.at fun oi e => k it (by simp) oi e
  item := by
    intro X hP hw hK hc i pins s σ H E I hf st hg
    subst hP hw hK
    obtain ⟨hd, hi⟩ := hg
    obtain ⟨f0, f1, f2, f3, f4, f5⟩ := hf it (by simp)
    obtain ⟨hs, hgd, hx, as', ep', hdt, hsz, ent⟩ := frzN I hd
    obtain ⟨rfl, rfl⟩ := dict_ep hod hdt
    obtain ⟨⟨k, b, v⟩, hkv⟩ : ∃ p, es[i]? = some p := ⟨es[i], List.getElem?_eq_getElem hi⟩
    obtain ⟨ha, hkey, hv⟩ := ent i k b v hkv
    refine next_key_item st hgd hdt hsz (Array.getElem?_eq_getElem ha) fun h' st' sb => ?_
    have I1 : Inv X pins σ H { s with heap := h' } := I.turned (t' := s.toks) (fun b ob hb e => (sb.2 b hb).trans e) f0 f1 f3 f4 f5
    obtain ⟨oi, e, c, dd⟩ := id st'
    exact ⟨_, rfl, go_of (s := { s with heap := h' }) e c dd (by decide) ⟨.ref b, H, I1, hkey, ⟨rfl, k, b, v, hkv, rfl⟩, st', fun b hb => (hf b hb).1⟩⟩
  done := by
    intro X hP hw hK hc i pins s σ H E I hf st hg
    subst hP hw hK
    obtain ⟨hd, hi⟩ := hg
    obtain ⟨f0, f1, f2, f3, f4, f5⟩ := hf it (by simp)
    obtain ⟨hs, hgd, hx, as', ep', hdt, hsz, ent⟩ := frzN I hd
    obtain ⟨rfl, rfl⟩ := dict_ep hod hdt
    exact next_key_end (I.ok.hd hc) st hgd hdt hsz hi fun h' eb => ⟨rfl, I.turned (t' := s.toks) (fun b ob hb e => eb b ob hb e) f0 f1 f3 f4 f5⟩
  self := fun A i s Q E st h => by
    refine wpAny_pyIter_slot st.typeIs F.slot_dict_keyiterator_iter (wpAny_call_entry F.slot_dict_keyiterator_iter st.typeIs F.entry_dict_keyiterator_iter ?_ (F.args_dict_keyiterator_iter_1 _))
    show wpAny _ _ (ret (.ref it)) _ _ s
    exact wpAny_pure ⟨_, rfl, "dict_keyiterator", _, st.typeIs, F.slot_dict_keyiterator_next.lookup, h⟩
theorem turn_itemsN {es : List NE} {elts : List Expr} {kk : Nat} {tpos : Pos} (it : Addr) (hod : o.data = .dict as ep) :
    Turn P w K (.Tuple elts kk tpos) (ItiN P w d o es) [it] it (fun i h => ∃ ok ov, IsItemIter h it d i es.length ep ok ov) where
  mem := by simp
  obj := fun i h st b hb => by
    have e : b = it := by simpa using hb
    subst e
    obtain ⟨ok, ov, e⟩ := st
    exact ⟨_, e, fun v z => nomatch z⟩
  keep := fun i h h' st k => let ⟨ok, ov, e⟩ := st; ⟨ok, ov, k it (by simp) _ e⟩
  item := by
    intro X hP hw hK hc i pins s σ H E I hf st hg
    subst hP hw hK
    obtain ⟨hd, hi⟩ := hg
    obtain ⟨hs, hgd, hx, as', ep', hdt, hsz, ent⟩ := frzN I hd
    obtain ⟨rfl, rfl⟩ := dict_ep hod hdt
    obtain ⟨⟨k, b, v⟩, hkv⟩ : ∃ p, es[i]? = some p := ⟨es[i], List.getElem?_eq_getElem hi⟩
    obtain ⟨ha, hkey, hv⟩ := ent i k b v hkv
    obtain ⟨ok, ov, he⟩ := st
    rw [← hsz] at he
    have hlt : it < s.heap.objs.size := Heap.lt_size he
    refine wpAny_pyNext_items_item_raw he ⟨o, hgd, hx, hdt⟩ ha fun h' ho hT hz hk => ?_
    refine ⟨_, rfl, wpAny_letOwnedTupleGo_items (s := { s with heap := h' }) ho fun h'' he' sb => ?_⟩
    have hT2 : h''.get? s.heap.objs.size = some { cls := .type "tuple", data := .seq #[_, _] } := (sb.2 _ (Nat.ne_of_gt hlt)).trans hT
    have new : ObjOk X.prog X.w (upd H s.heap.objs.size (.tup [.ref b, v])) h'' s.heap.objs.size (.tup [.ref b, v]) :=
      ⟨by show 2 ≤ sizeLine; decide, [_, _], .cons hkey (.cons hv .nil), ⟨_, hT2, rfl, _, rfl⟩⟩
    have I1 : Inv X pins σ (upd H s.heap.objs.size (.tup [.ref b, v])) { s with heap := h'' } :=
      I.turnedNew (t' := s.toks) (ch := [it]) (fun b ob hb e => (sb.2 b (by simpa using hb)).trans (hk b ob (by simpa using hb) e)) hf (Nat.le_refl _) new
    refine ⟨.ref s.heap.objs.size, _, I1, rfl, ⟨_, k, b, v, hkv, rfl, I.hok.fresh (Nat.le_refl _), rfl⟩, ⟨as'[i].key, as'[i].val, by rw [← hsz]; exact he'⟩, fun b hb => ?_⟩
    · have e : b = it := by simpa using hb
      rw [e, upd_ne (Nat.ne_of_lt hlt)]
      exact (hf it (by simp)).1
  done := by
    intro X hP hw hK hc i pins s σ H E I hf st hg
    subst hP hw hK
    obtain ⟨hd, hi⟩ := hg
    obtain ⟨f0, f1, f2, f3, f4, f5⟩ := hf it (by simp)
    obtain ⟨hs, hgd, hx, as', ep', hdt, hsz, ent⟩ := frzN I hd
    obtain ⟨rfl, rfl⟩ := dict_ep hod hdt
    obtain ⟨ok, ov, he⟩ := st
    rw [← hsz] at he
    exact wpAny_pyNext_items_end_raw (I.ok.hd hc) he ⟨o, hgd, hx, hdt⟩ (by omega) fun h' eb => ⟨rfl, I.turned (t' := s.toks) (fun b ob hb e => eb b ob hb e) f0 f1 f3 f4 f5⟩
  self := fun A i s Q E st h => let ⟨_, _, e⟩ := st; PySem.W.kcp_self e h
end
def iKeysN_ (P : Program) (w : World) (td : TE) : TI := fun σ H R => td σ H fun x H1 => ∃ d o es, x = .ref d ∧ H1 d = some (.frz o (DnO P w d es)) ∧ R (ItkN P w d o es) H1
def iItemsN_ (P : Program) (w : World) (td : TE) : TI := fun σ H R => td σ H fun x H1 => ∃ d o es, x = .ref d ∧ H1 d = some (.frz o (DnO P w d es)) ∧ R (ItiN P w d o es) H1
section
variable {X : Cx} {tg e : Expr} {td : TE} {apos cpos : Pos}
theorem pi_keysN (he : PE X e td) : PI X tg e (iKeysN_ X.prog X.w td) := by
  refine ⟨fun pins s σ H R I h => ?_⟩
  refine thn (he.run pins s σ H _ I h) fun u s1 ⟨x, H1, I1, rx, d, o, es, ex, hd, q⟩ => ?_
  subst ex
  obtain rfl : u = Value.ref d := rx
  obtain ⟨hs, hgd, hx, as, ep, hdt, hsz, ent⟩ := frzN I1 hd
  refine iter_keys hs hgd hx hdt (pi_one (tk := s1.toks) I1 _ (turn_keysN _ hdt) ⟨_, Heap.get?_push_size _ rfl, rfl, ?_⟩ q)
  rw [hsz] <;> rfl
theorem pi_itemsN {elts : List Expr} {kk : Nat} {tpos : Pos} (he : PE X e td) (hbase : attributeBase e "items" X.env (eval e X.env) = eval e X.env := by rfl) (hline : (apos.endLine == cpos.line) = true := by rfl) :
    PI X (.Tuple elts kk tpos) (.Call (.Attribute e "items" apos) [] [] cpos) (iItemsN_ X.prog X.w td) := by
  refine ⟨fun pins s σ H R I h => ?_⟩
  refine wpAny_Call_method (T := "dict") (id := "dict.items") hbase rfl hline F.plainAttrs_dict F.slot_dict_items F.type_dict_items (thn (he.run pins s σ H _ I h) fun u s1 ⟨x, H1, I1, rx, d, o, es, ex, hd, q⟩ => ?_)
  subst ex
  obtain rfl : u = Value.ref d := rx
  obtain ⟨hs, hgd, hx, as, ep, hdt, hsz, ent⟩ := frzN I1 hd
  have raw : s1.heap.DictRaw d as ep := ⟨o, hgd, hx, hdt⟩
  refine ⟨raw.typeIs, fun b q => by cases q; exact ⟨o, hgd, hx.2.1⟩, ?_⟩
  have I2 : Inv X pins σ H1 { s1 with heap := s1.heap.push { cls := .type "dict_items", data := .fields #[.ref d] } } := I1.kept (t' := s1.toks) fun b ob q => Heap.get?_push_of_some _ q
  have fin : wpAny (model X.prog X.w) X.A (pyIter (.ref s1.heap.objs.size)) (PIE X pins σ (.Tuple elts kk tpos) R) X.xe { s1 with heap := s1.heap.push { cls := .type "dict_items", data := .fields #[.ref d] } } := by
    refine wpAny_pyIter_items_raw (d := d) (es := as) (ep := ep) ⟨_, Heap.get?_push_size _ rfl, rfl, rfl⟩ (raw.at fun _ e => Heap.get?_push_of_some _ e) (pi_one (tk := s1.toks) I2 _ (turn_itemsN _ hdt) ⟨.none, .none, ?_⟩ q)
    rw [← hsz]
    exact Heap.get?_push_size _ rfl
  show wpAny _ _ (callWith cpos (.builtin "dict.items") [.ref d] [] []) _ X.xe s1
  exact method_meetsIn F.slot_dict_items F.entry_dict_items rfl (PySem.evalArgs_none ⟨rfl, raw.typeIs, F.args_dict_items_1 _, _, meets_dict_items_raw d hs, ⟨⟨as, ep, raw⟩, fin⟩⟩)
end
section
variable {S : SA} {X : Cx} {G F G' F' H H' : Hp} {σ : L2.St} {env : DEnv} {d e : D} {v u : V} {p : Addr} {Q : VK} {m mk mv : DE}
/-! ### walks, by trees -/
theorem RpN.get : ∀ {kvs : List (D × D)} {es : List NE} {i : Nat} {x : D × D}, RpN S F kvs es → kvs[i]? = some x → ∃ k b v, es[i]? = some (k, b, v) ∧ Rp S F x.1 (.ref b) ∧ Rp S F x.2 v
  | _, _, _, _, .nil, e => by simp at e
  | _, _, 0, x, .cons (k := k) (b := b) (v := v) a _ _ c _, e => by simp at e; subst e; exact ⟨k, b, v, rfl, a, c⟩
  | _, _, i + 1, x, .cons _ _ _ _ t, e => by
    obtain ⟨k, b, v, h1, h2⟩ := RpN.get (i := i) (x := x) t (by simpa using e)
    exact ⟨k, b, v, by simpa using h1, h2⟩
structure IMSub (I : IM) : Prop where
  sub : ∀ {F' F2 : Hp} {σ σ2 : L2.St} {env env2 : DEnv}, I.P F' σ env F2 σ2 env2 → Sub F' F2
theorem imForSub : IMSub imFor := ⟨fun h => h⟩
theorem imCompSub (vs : List Nat) : IMSub (imComp vs) := ⟨fun h => h.1⟩
theorem its_keysN {I : IM} (O : IMSub I) {kvs : List (D × D)} {es : List NE} {a : Addr} {o : Obj} (f : F' a = some (.frz o (DnO S.pr S.wd a es))) (r : RpN S F' kvs es) : ItsD S (ItkN S.pr S.wd a o es) (I.P F' σ env) (kvs.map (·.1)) where
  go := fun i G2 F2 σ2 H2 env2 hp g hi => ⟨g.fh _ _ (O.sub hp _ _ f), by rw [← r.len]; simpa using hi⟩
  stop := fun i G2 F2 σ2 H2 env2 hp g hi => ⟨g.fh _ _ (O.sub hp _ _ f), by rw [← r.len]; simpa using hi⟩
  yld := fun i G2 F2 σ2 H2 env2 x H3 d hp g hd y => by
    obtain ⟨rfl, k, b, v, h1, rfl⟩ := y
    rw [List.getElem?_map, Option.map_eq_some_iff] at hd
    obtain ⟨p, hp1, rfl⟩ := hd
    obtain ⟨k', b', v', h2, h3, _⟩ := r.get hp1
    rw [h1] at h2
    cases h2
    exact ⟨G2, F2, Ext.refl _ _, g, h3.mono (O.sub hp)⟩
def pairD (p : D × D) : D := .tup [p.1, p.2]
theorem its_itemsN {I : IM} (O : IMSub I) {kvs : List (D × D)} {es : List NE} {a : Addr} {o : Obj} (f : F' a = some (.frz o (DnO S.pr S.wd a es))) (r : RpN S F' kvs es) : ItsD S (ItiN S.pr S.wd a o es) (I.P F' σ env) (kvs.map pairD) where
  go := fun i G2 F2 σ2 H2 env2 hp g hi => ⟨g.fh _ _ (O.sub hp _ _ f), by rw [← r.len]; simpa using hi⟩
  stop := fun i G2 F2 σ2 H2 env2 hp g hi => ⟨g.fh _ _ (O.sub hp _ _ f), by rw [← r.len]; simpa using hi⟩
  yld := fun i G2 F2 σ2 H2 env2 x H3 d hp g hd y => by
    obtain ⟨T, k, b, v, h1, rfl, nT, rfl⟩ := y
    rw [List.getElem?_map, Option.map_eq_some_iff] at hd
    obtain ⟨p, hp1, rfl⟩ := hd
    obtain ⟨k', b', v', h2, h3, h4⟩ := r.get hp1
    rw [h1] at h2
    cases h2
    obtain ⟨x3, g3⟩ := g.newFrz nT (.tup [.ref b, v])
    refine ⟨_, _, x3, g3, .tup upd_same (.cons ((h3.mono (O.sub hp)).mono x3.f) (.cons ((h4.mono (O.sub hp)).mono x3.f) .nil)) (by show 2 ≤ sizeLine; decide)⟩
def iKeysN (m : DE) : DI := fun env => m env >>= fun d => match d with
  | .dcn kvs => .ret (kvs.map (·.1))
  | _ => .fail
def iItemsN (m : DE) : DI := fun env => m env >>= fun d => match d with
  | .dcn kvs => .ret (kvs.map pairD)
  | _ => .fail
theorem qi_keysN {I : IM} (O : IMSub I) {tg l : Expr} (hS : S.pr = X.prog ∧ S.wd = X.w) (hl : QE S X l m) : QI I S X tg l (iKeysN m) :=
  pi_weak (pi_keysN hl) fun σ H R ⟨G, F, env, g, ok, q⟩ => ⟨G, F, env, g, M.wp_mono (M.wpb q) fun d q v G1 F1 H1 e1 g1 r1 => by
    cases d with
    | dcn kvs =>
      cases r1 with
      | dcn h1 h2 h3 =>
        rename_i a o es
        exact ⟨a, o, es, rfl, by rw [← hS.1, ← hS.2]; exact g1.fh _ _ h1, by rw [← hS.1, ← hS.2]; exact q _ G1 F1 H1 e1 g1 (its_keysN O h1 h2) (by rw [List.length_map, h2.len]; exact h3)⟩
    | _ => exact q.elim⟩
theorem qi_itemsN {I : IM} (O : IMSub I) {elts : List Expr} {kk : Nat} {tpos apos cpos : Pos} {l : Expr} (hS : S.pr = X.prog ∧ S.wd = X.w) (hl : QE S X l m) (hbase : attributeBase l "items" X.env (eval l X.env) = eval l X.env := by rfl) (hline : (apos.endLine == cpos.line) = true := by rfl) :
    QI I S X (.Tuple elts kk tpos) (.Call (.Attribute l "items" apos) [] [] cpos) (iItemsN m) :=
  pi_weak (pi_itemsN hl hbase hline) fun σ H R ⟨G, F, env, g, ok, q⟩ => ⟨G, F, env, g, M.wp_mono (M.wpb q) fun d q v G1 F1 H1 e1 g1 r1 => by
    cases d with
    | dcn kvs =>
      cases r1 with
      | dcn h1 h2 h3 =>
        rename_i a o es
        exact ⟨a, o, es, rfl, by rw [← hS.1, ← hS.2]; exact g1.fh _ _ h1, by rw [← hS.1, ← hS.2]; exact q _ G1 F1 H1 e1 g1 (its_itemsN O h1 h2) (by rw [List.length_map, h2.len]; exact h3)⟩
    | _ => exact q.elim⟩
end
end DL

set_option Elab.async false
set_option linter.all false
set_option maxRecDepth 100000
/-! DN4: {k: v} with a nested key; sorted of tuples. -/
namespace DL
open PySem PySem.Spec L2
open PyProof.Rows hiding St
theorem disp_pairsH {prog : Program} {w : World} {K : Type} [DecidableEq K] {knd : HeapKind prog w K} {A : Around} {E : Value → Shared → Prop} {s : Shared} {env : Env} {keys : List (Option Expr)} {values : List Expr} {pos : Pos} {pairs : List (Sem Value × Sem Value)} {Q : Value → Shared → Prop} (hu : knd.room A)
    (hshape : (evalEachOpt keys env).zip ((evalEach values env).map fun v => do let x ← v; standAt pos; pure x) = pairs.map fun p => (some p.1, p.2)) (h0 : pairs ≠ []) (hlen : pairs.length ≤ 15)
    (h : wpAny (model prog w) A (evalPairs pairs) (fun vs s₁ => ∃ ps, CarriesH knd s₁.heap vs ps ∧ s₁.heap.DictOfH knd s.heap.objs.size [] ∧
      ∀ h' tk, h'.DictOfH knd s.heap.objs.size (storedAllH [] ps) → Heap.SameBut s.heap.objs.size s₁.heap h' → Q (.ref s.heap.objs.size) { s₁ with heap := h', toks := tk }) E
      { s with heap := s.heap.push { cls := .type "dict", data := .dict #[] } }) :
    wpAny (model prog w) A (eval (.Dict keys values pos) env) Q E s := by
  rw [arm_eval_Dict, hshape, dictDisplay_pairs pairs h0 (by omega)]
  exact wpAny_bind (wpAny_standAt (wpAny_bind (wpAny_subDictH (knd := knd) (Q := fun d s' => wpAny (model prog w) A (pure (Value.ref d)) Q E s') hu hlen
    (wpAny_mono h (fun vs s₁ h₁ => by obtain ⟨ps, hc, hm, hq⟩ := h₁; exact ⟨ps, hc, hm, fun h' tk a b => wpAny_pure (hq h' tk a b)⟩) fun _ _ e => e))))
def tDispN (P : Program) (w : World) (tk tv : TE) : TE := fun σ H Q => ∀ p, H p = none → tk σ (upd H p (DnO P w p [])) fun x H1 => tv σ H1 fun y H2 => H2 p = some (DnO P w p []) ∧ ∃ b k, x = .ref b ∧ NAt H2 k (.ref b) ∧ k.depth ≤ 8 ∧ Q (.ref p) (upd H2 p (DnO P w p [(k, b, y)]))
section
variable {X : Cx} {pos : Pos} {ek ev : Expr} {tk tv : TE}
theorem pe_dispN (hu : X.A.units + 64 < cLine) (hk : PE X ek tk) (hv : PE X ev tv) : PE X (.Dict [some ek] [ev] pos) (tDispN X.prog X.w tk tv) := by
  refine ⟨fun pins s σ H Q I q => ?_⟩
  have hp := I.hok.fresh (Nat.le_refl s.heap.objs.size)
  have I0 := I.laid (a := s.heap.objs.size) (o := DnO X.prog X.w s.heap.objs.size []) (h' := s.heap.push { cls := .type "dict", data := .dict #[] }) (t' := s.toks) (fun _ _ q => Heap.get?_push_of_some _ q) (Nat.le_refl _) (dn_empty s.heap I.big)
  refine disp_pairsH (knd := nestedKind X.prog X.w) (pairs := [(eval ek X.env, do let x ← eval ev X.env; standAt pos; pure x)]) (show X.A.units + 8 < cLine by omega) rfl (by simp) (by simp) ?_
  refine pairTrees_cons_walk (ks := []) (vs := []) (thn (hk.run pins _ σ _ _ I0 (q _ hp)) fun u s1 ⟨x, H1, I1, rx, q1⟩ => thn (hv.run pins s1 σ H1 _ I1 q1) fun r s2 ⟨y, H2, I2, ry, e2, b, k, ex, nk, k8, q2⟩ => pairTrees_nil_walk ?_)
  subst ex
  obtain rfl : u = Value.ref b := rx
  obtain ⟨z, hd, xs, rel, dd⟩ := dn_rd I2.hok (.inl e2) (fun _ h => absurd h (by simp))
  cases rel
  refine ⟨[(k, b, r)], ⟨rfl, rfl, ⟨nk.is I2.hok rfl, k8⟩, trivial⟩, dd, fun h' tk' dd' hs => ?_⟩
  have dd2 : h'.DictOfH (nestedKind X.prog X.w) s.heap.objs.size [(k, b, r)] := dd'
  obtain ⟨q3, ds, ep, hq, h2, h3, h4, _, h5⟩ := dd2
  exact ⟨.ref s.heap.objs.size, _, d_write I2 (by rw [e2]; exact True.intro) hs ⟨q3, hq⟩ (dn_new (by rw [sizeLine_eq, List.length_singleton]; decide) hd (.cons ⟨rfl, rfl, ry⟩ .nil) ⟨q3, ds, ep, hq, h2, h3, h4, h5⟩), rfl, q2⟩
end
section
variable {S : SA} {X : Cx} {G F G' F' H H' : Hp} {σ : L2.St} {env : DEnv} {d e : D} {v u : V} {p : Addr} {Q : VK} {m mk mv : DE} {ek ev : Expr} {pos : Pos}
def mDispN (mk mv : DE) : DE := fun env => mk env >>= fun k => mv env >>= fun v => if keyOkN k then .ret (.dcn [(k, v)]) else .fail
theorem qdispN (hS : S.pr = X.prog ∧ S.wd = X.w) (hu : X.A.units + 64 < cLine) (hk : QB S X ek mk) (hv : QE S X ev mv) : QF S X (.Dict [some ek] [ev] pos) (mDispN mk mv) :=
  pe_weak (pe_dispN hu hk hv) fun σ H Q ⟨G, F, env, g, q⟩ p hp => by
    rw [← hS.1, ← hS.2]
    obtain ⟨g0, e0⟩ := g.hold hp (DnO S.pr S.wd p [])
    have fp := g.free hp
    have np := g.no hp
    have nfp := g.fg.no np
    refine ⟨_, F, env, g0, M.wp_mono (M.wpb q) fun k q u G1 F1 H1 e1 g1 r1 => ?_⟩
    refine ⟨_, F1, env, g1, M.wp_mono (M.wpb q) fun y q w G2 F2 H2 e2 g2 r2 => ?_⟩
    split at q
    · rename_i hkey
      have e12 := e1.trans e2
      obtain ⟨xs, kk, rfl, hn, h8⟩ := keyOkN_elim hkey
      have r1 := r1.rp g1 rfl
      have G2p : G2 p = some (DnO S.pr S.wd p []) := e12.at_
      have F2p : F2 p = none := e12.atF nfp
      refine ⟨g2.kp _ _ G2p, ?_⟩
      cases r1 with
      | tup f1 f2 f3 =>
        rename_i b0 vs0
        have rt := (Rp.tup (S := S) f1 f2 f3).mono e2.f
        refine ⟨b0, kk, rfl, (rt.nat hn).mono g2.fh, h8, ?_⟩
        have g3 := g2.drop (o' := DnO S.pr S.wd p [(kk, b0, w)]) fp G2p F2p
        exact (show PostF S G F σ env Q _ from q) p _ F2 _ (e12.drop np) g3 (fp.fresh (delH_at _ _) ⟨_, upd_same, .cons rt hn h8 r2 .nil, by rw [sizeLine_eq, List.length_singleton]; decide⟩)
    · exact q.elim
/-! ### sorted(t), t a tuple -/
def rSortedTup (K : PySem.W.Frag) : List V → Hp → VK → Prop := fun vs H Q => ∃ (a : Addr) (ys : List V) (ds : List D), vs = [V.ref a] ∧ SqT K H a ys ∧ DpAll K H ys (D.pyL ds) ∧ srtOk ds = true ∧
  ∀ (ps : List (V × D)) (p : Addr), ps.Perm (ys.zip ds) → ps.map (·.2) = sortD ds → H p = none → Q (.ref p) (upd H p (.lst (ps.map (·.1))))
theorem cr_sortedTup (hu : X.A.units + 64 < cLine) : CallR X (.builtin "sorted") (rSortedTup X.K) := by
  intro pins s σ H vs us Q I r h
  obtain ⟨a, ys, ds, rfl, hs, hdp, ho, q⟩ := h
  rw [Vals.ref1 r]
  obtain ⟨its, rv, ⟨o, ho1, hc1, n, hd1⟩, hz⟩ := I.tuple hs
  have hlen : its.length = ys.length := rv.length.symm
  refine Calls.call_function_entry PyProof.Rows.kind_sorted PyProof.Rows.plain_sorted PyProof.Rows.entry_sorted (PyProof.Rows.args_sorted1 _) ?_
  unfold Builtin.«sorted»
  refine wpAny_bind (m := checkCount "sorted" 1 1 _) (wpAny_pure ?_)
  refine wpAny_bind (wpAny_collect_seq a (.inr rfl) ho1 hc1 hd1 (fun h' hk => ?_) (by rw [List.size_toArray]; omega))
  have eits : its.toArray.toList = its := by simp
  rw [eits]
  have I1 : Inv X pins σ H { s with heap := h' } := I.kept (t' := s.toks) hk
  refine wpAny_bind (wpAny_newList ?_ (by rw [hlen]; exact hz))
  have hoL : (h'.push (seqObj "list" its.toArray 0)).get? h'.objs.size = some (seqObj "list" its.toArray 0) := Heap.get?_push_size _ rfl
  show wpAny _ _ _ _ _ { s with heap := h'.push (seqObj "list" its.toArray 0) }
  have hyl : ys.length = ds.length := by
    have := dpAll_len hdp
    rw [this, D.pyL_map, List.length_map]
  obtain ⟨as, hr⟩ := Dp.readsAll I1 (D.pyL ds) ys its hdp rv
  have er0 := each_fresh (a := h'.objs.size) (by
    cases hg : h'.get? h'.objs.size with
    | none => rfl
    | some ob => exact absurd (Heap.lt_size hg) (Nat.lt_irrefl _)) (each_reads hr hyl)
  have er : PySem.W.EachIs (fun (u : Value) (p : V × D) => ∃ as, Reads (h'.push (seqObj "list" its.toArray 0)) u p.2.py as ∧ h'.objs.size ∉ as) its (ys.zip ds) := er0.mono fun u p ⟨as, r, n⟩ => ⟨as, PyProof.Rows.Reads.keeps (fun _ _ e => Heap.get?_push_of_some _ e) r, n⟩
  have hb := zip_snd ys ds hyl
  have hm : (ys.zip ds).map (fun p : V × D => p.2.py) = ds.map D.py := by
    conv => rhs; rw [← hb]
    rw [List.map_map] <;> rfl
  refine wpAny_bind (wpAny_holding (PySem.W.list_sort_data (s := { s with heap := h'.push (seqObj "list" its.toArray 0) }) (enc := fun p : V × D => p.2.py) (vs := its) hoL (each_zip (K := X.K) rv hyl) er (by rw [hm]; exact srt_alike ho) (by rw [hm]; exact srt_sortable ho)
    (by rw [List.length_zip, hyl, Nat.min_self, ← hyl]; exact hz) (fun b hb' => ?_) fun out e1 e2 => ?_))
  · have : b.2 ∈ ds := by rw [← hb]; exact List.mem_map.mpr ⟨b, hb', rfl⟩
    have h60 := D.dep 60 b.2 (srtOk_pl ho _ this)
    simp only [Around.in1_units]
    omega
  · have hp := List.mergeSort_perm (ys.zip ds) (PySem.W.dataLe false fun p : V × D => p.2.py)
    obtain ⟨ep2, he'⟩ := PyProof.Rows.sortedHeap_at (vs := its) (out := out.toArray) hoL
    have hl2 : (((ys.zip ds).mergeSort (PySem.W.dataLe false fun p : V × D => p.2.py)).map (·.1)).length ≤ sizeLine := by
      rw [List.length_map, hp.length_eq, List.length_zip, hyl, Nat.min_self, ← hyl]; exact hz
    refine wpAny_pure ⟨_, rfl, .ref h'.objs.size, upd H h'.objs.size (.lst (((ys.zip ds).mergeSort (PySem.W.dataLe false fun p : V × D => p.2.py)).map (·.1))), I1.laid (t' := s.toks) (fun b u e => ?_) (Nat.le_refl _) ⟨hl2, out, ep2, each_vals e2, he'⟩, rfl,
      q _ _ hp (srtd_merge ds _ hb ho) (I1.hok.fresh (Nat.le_refl _))⟩
    have hbl : b < h'.objs.size := Heap.lt_size e
    rw [PyProof.Rows.sortedHeap_old (Nat.ne_of_lt hbl) (by rw [size_push']; exact Nat.lt_succ_of_lt hbl)]
    exact Heap.get?_push_of_some _ e
/-- sorted of lists and of tuples -/
def dSortedX : List D → M D
  | [.tup xs] => if srtOk xs then .ret (.lst (sortD xs)) else .fail
  | ds => dSorted ds
theorem c_sortedX (hu : X.A.units + 64 < cLine) : CallF S X (.builtin "sorted") dSortedX := by
  obtain ⟨r0, hr0, k0⟩ := c_sorted (S := S) hu
  refine ⟨fun vs H Q => r0 vs H Q ∨ rSortedTup X.K vs H Q, fun pins s σ H vs us Q I r h => ?_, fun G F σ H env vs ds Q g r q => ?_⟩
  · rcases h with h | h
    · exact hr0 pins s σ H vs us Q I r h
    · exact cr_sortedTup hu pins s σ H vs us Q I r h
  · unfold dSortedX at q
    split at q
    · rename_i xs
      refine .inr ?_
      split at q
      · rename_i ho
        obtain ⟨v, rfl, r1⟩ := rdb1 r
        obtain ⟨p, ys, rfl, f1, h1, l1, z1⟩ := r1.tup g
        have hd : DpAll X.K H ys (D.pyL xs) := by
          have hpl : D.plL 60 xs = true := by
            unfold srtOk at ho; simp only [Bool.and_eq_true] at ho; exact ho.1.1
          exact (RpL.dp (K := X.K) g.fh 60 xs hpl l1).1
        refine ⟨p, ys, xs, rfl, .inl (.of h1), hd, ho, fun ps a hp he hn => ?_⟩
        have hr : RpL S F (sortD xs) (ps.map (·.1)) := by
          rw [← he]
          exact RpL.of_mem fun z hz => l1.zip_mem z (hp.mem_iff.mp hz)
        exact PostF.lst (show PostF S G F σ env Q (.lst (sortD xs)) from q) g hn hr (by rw [List.length_map, hp.length_eq, List.length_zip, l1.len]; omega)
      · exact q.elim
    · exact .inl (k0 G F σ H env vs _ Q g r q)
end
end DL

set_option Elab.async false
set_option linter.all false
set_option maxRecDepth 100000
/-! DN5: two new lists at once. -/
namespace DL
open PySem PySem.Spec L2
open PyProof.Rows hiding St
section
variable {S : SA} {X : Cx} {G F H : Hp} {σ : L2.St} {env : DEnv} {pos : Pos}
/-- a, b = [], [] -/
def mParN (i j : Nat) : DS := fun env => .ret (.nx, (env.set i (some (.own (.lst [])))).set j (some (.own (.lst []))))
theorem qparN (i j : Nat) {x y : Str} {px py pt p1 p2 : Pos} {kt k2 pt2} (hN : X.N.Nodup) (hi : X.N[i]? = some x := by rfl) (hj : X.N[j]? = some y := by rfl) (hij : i ≠ j := by decide)
    (hx : X.env.scope.names.lookup x = some .local := by rfl) (hy : X.env.scope.names.lookup y = some .local := by rfl) (hc : X.calm = true := by rfl)
    (hw : swappedStores [.Tuple [.Name x px, .Name y py] kt pt] (.Tuple [.List [] p1, .List [] p2] k2 pt2) X.env = pure (some [x, y]) := by rfl)
    (hs : swapsWithSole [.Tuple [.Name x px, .Name y py] kt pt] (.Tuple [.List [] p1, .List [] p2] k2 pt2) pos.line X.env = pure false := by rfl) :
    QS S X (.Assign [.Tuple [.Name x px, .Name y py] kt pt] (.Tuple [.List [] p1, .List [] p2] k2 pt2) pos) (mParN i j) :=
  ps_weak (ps_par hc hN hi hj hij hx hy (pa_cons (pe_lst pa_nil) (pa_cons (pe_lst pa_nil) pa_nil)) hw hs) fun D' σ H ⟨G, F, env, g, q⟩ => by
    refine ⟨Nat.zero_le _, fun a ha => ⟨Nat.zero_le _, fun b hb => ?_⟩⟩
    have fa : FreshR S G F σ (upd H a (.lst [])) env a (.lst []) := ⟨g.no ha, (g.stNe ha).1, (g.stNe ha).2, g.ownNe ha, [], upd_same, .nil, Nat.zero_le _⟩
    have g1 := (g.new ha (.lst [])).setOwn (i := i) fa
    have fb : FreshR S G F (σ.set i (some (.ref a))) (upd (upd H a (.lst [])) b (.lst [])) (env.set i (some (.own (.lst [])))) b (.lst []) := ⟨g1.no hb, (g1.stNe hb).1, (g1.stNe hb).2, g1.ownNe hb, [], upd_same, .nil, Nat.zero_le _⟩
    exact ⟨_, _, rfl, q _ G F _ (Ext.refl _ _) ((g1.new hb (.lst [])).setOwn (i := j) fb)⟩
end
end DL

set_option Elab.async false
set_option linter.all false
set_option maxRecDepth 100000
/-! DL13: a law's own state and draws. -/
namespace DL
open PySem PySem.Spec L2
open PyProof.Rows hiding St

abbrev rModI : R2 := rI (fun _ j => 0 < j) fun i j => .int (i % j)
abbrev rFdI : R2 := rI CDiv fun i j => .int (i / j)
abbrev rAddI : R2 := rI0 fun i j => .int (i + j)
abbrev rMulI : R2 := rI CMul fun i j => .int (i * j)
abbrev rGeI : R2 := rI0 fun i j => .bl (decide (j ≤ i))
abbrev rLenX (K : PySem.W.Frag) : List V → Hp → VK → Prop := fun xs H Q => ∃ x n, xs = [x] ∧ LenV K x H n ∧ Q (.int (n : Nat)) H
abbrev rIntX : List V → Hp → VK → Prop := fun xs H Q => (∃ i, xs = [V.int i] ∧ Q (V.int i) H) ∨ ∃ k : Bool, xs = [V.bl k] ∧ Q (V.int (if k = true then 1 else 0)) H
theorem ixN_at {n j : Nat} (hj : j < n) : ixN n (j : Int) = some j := by
  unfold ixN
  rw [if_pos (by omega), if_pos (by omega)]
  simp
def tTake (K : PySem.W.Frag) : TS :=
  tSeq (tAsg (tOp (rIx K) (tVar 0) (tC (.int 1))) (gName 2))
  (tSeq (tAsg (tOp rModI (tOp (rIx K) (tVar 0) (tC (.int 0))) (tCB (rLenX K) (tCons (tVar 2) tNil))) (gName 3))
  (tSeq (tAsg (tOp (rIx K) (tVar 2) (tVar 3)) (gName 4))
  (tSeq (tIfS (tTest (tOp rGeI (tVar 4) (tC (.int 1000000000000000000)))) (tSeq (tAsg (tOp rFdI (tVar 4) (tVar 1)) (gSub (tVar 2) (tVar 3) rSetL)) (tRet (tOp rModI (tVar 4) (tVar 1)))) tNext)
  (tSeq (tAsg (tOp rAddI (tOp (rIx K) (tVar 0) (tC (.int 0))) (tC (.int 1))) (gSub (tVar 0) (tC (.int 0)) rSetL))
  (tSeq (tAsg (tOp rModI (tCB rIntX (tCons (tOp rAddI (tOp rMulI (tVar 4) (tC (.int 48271))) (tOp rMulI (tOp (rIx K) (tVar 0) (tC (.int 0))) (tC (.int 69621)))) tNil)) (tC (.int 2147483647))) (gName 5))
  (tSeq (tAsg (tOp rModI (tCB rIntX (tCons (tOp rAddI (tOp rMulI (tVar 5) (tC (.int 16807))) (tOp rMulI (tOp (rIx K) (tVar 0) (tC (.int 0))) (tC (.int 7919)))) tNil)) (tC (.int 1000000007))) (gName 5))
  (tRet (tOp rModI (tOp rFdI (tVar 5) (tC (.int 7))) (tVar 1)))))))))
theorem take_run {K : PySem.W.Frag} {S : SA} {vs : List V} {H : Hp} {Q : VK} {E : XK} (h : spTake S vs H Q E) : tTake K { nx := fun _ H' => Q .non H', rt := Q } (L2.start ["state", "most", "cells", "at", "cell", "mixed"] vs) H := by
  obtain ⟨k, rfl, k0, k1, ⟨hne, m, cs, h1, h2, h3⟩, q⟩ := h
  have hl : (0 : Int) < ((cs.map V.int).length : Int) := by rw [List.length_map]; omega
  refine ⟨_, rfl, .inl ⟨S.sa, _, _, _, rfl, rfl, .of h1, rfl, ?_⟩⟩
  refine ⟨_, rfl, .inl ⟨S.sa, _, _, _, rfl, rfl, .of h1, rfl, _, rfl, _, _, rfl, .inl ⟨_, .of h2, rfl⟩, (m : Int), _, rfl, rfl, hl, ?_⟩⟩
  obtain ⟨j, hj, ej⟩ : ∃ j : Nat, j < cs.length ∧ (m : Int) % ((cs.map V.int).length : Int) = (j : Int) := by
    rw [List.length_map]
    refine ⟨m % cs.length, Nat.mod_lt _ h3, by omega⟩
  show gName 3 (V.int ((m : Int) % ((cs.map V.int).length : Int))) _ _ _
  rw [ej]
  have hc : (cs.map V.int)[j]? = some (.int cs[j]) := by rw [List.getElem?_map, List.getElem?_eq_getElem hj]; rfl
  refine ⟨_, rfl, _, rfl, .inl ⟨S.ca, _, _, _, rfl, rfl, .of h2, (atI_nat hc), ?_⟩⟩
  refine ⟨_, rfl, _, _, rfl, rfl, _, rfl, ?_⟩
  by_cases hb : (1000000000000000000 : Int) ≤ cs[j]
  · have e : decide ((1000000000000000000 : Int) ≤ cs[j]) = true := decide_eq_true hb
    rw [e]
    refine L2.iteT ?_
    refine ⟨_, rfl, _, rfl, _, _, rfl, rfl, ⟨k0, by omega⟩, _, rfl, _, rfl, S.ca, _, _, j, rfl, rfl, h2, (ixN_at (by rw [List.length_map]; exact hj)), ?_⟩
    refine ⟨_, rfl, _, rfl, _, _, rfl, rfl, k0, ?_⟩
    refine q _ _ (Int.emod_nonneg _ (by omega)) (Int.emod_lt_of_pos _ k0) ⟨hne, m, cs.set j (cs[j] / k), ?_, ?_, ?_⟩ fun a n1 n2 => by rw [upd_ne n2]
    · rw [upd_ne hne]; exact h1
    · rw [upd_same, List.map_set]
    · rw [List.length_set]; exact h3
  · have e : decide ((1000000000000000000 : Int) ≤ cs[j]) = false := decide_eq_false hb
    rw [e]
    refine L2.iteF ?_
    refine ⟨_, rfl, .inl ⟨S.sa, _, _, _, rfl, rfl, .of h1, rfl, _, _, rfl, rfl, _, rfl, S.sa, _, _, 0, rfl, rfl, h1, rfl, ?_⟩⟩
    have h1' : upd H S.sa (.lst ([V.int (m : Int), V.ref S.ca].set 0 (V.int ((m : Int) + 1)))) S.sa = some (.lst [V.int ((m : Int) + 1), V.ref S.ca]) := upd_same
    refine ⟨_, rfl, _, _, rfl, rfl, .inr (by omega), _, rfl, .inl ⟨S.sa, _, _, _, rfl, rfl, .of h1', rfl, _, _, rfl, rfl, .inr (by omega), _, _, rfl, rfl, .inl ⟨_, rfl, _, _, rfl, rfl, by omega, ?_⟩⟩⟩
    refine ⟨_, rfl, _, _, rfl, rfl, .inr (by omega), _, rfl, .inl ⟨S.sa, _, _, _, rfl, rfl, .of h1', rfl, _, _, rfl, rfl, .inr (by omega), _, _, rfl, rfl, .inl ⟨_, rfl, _, _, rfl, rfl, by omega, ?_⟩⟩⟩
    refine ⟨_, rfl, _, _, rfl, rfl, ⟨by omega, by omega⟩, _, rfl, _, _, rfl, rfl, k0, ?_⟩
    refine q _ _ (Int.emod_nonneg _ (by omega)) (Int.emod_lt_of_pos _ k0) ⟨hne, m + 1, cs, ?_, ?_, h3⟩ fun a n1 n2 => by rw [upd_ne n1]
    · rw [upd_same]; rfl
    · rw [upd_ne hne.symm]; exact h2

abbrev rAbsX : List V → Hp → VK → Prop := fun xs H Q => ∃ i, xs = [V.int i] ∧ Q (V.int (if i < 0 then -i else i)) H
def tState (K : PySem.W.Frag) : TS :=
  tSeq (tAsg (tLc (iList K (tSl (rSlL K) (tVar 0) tNoPart (tPart (tC (.int 63))))) (gName 2) tYes (tCB rAbsX (tCons (tVar 2) tNil)) [2]) (gName 1))
  (tSeq (tIfS (tTest (tOp rEq (tCB (rLenX K) (tCons (tVar 1) tNil)) (tC (.int 0)))) (tAsg (tLst (tCons (tC (.int 0)) tNil)) (gName 1)) tNext)
  (tRet (tLst (tCons (tC (.int 0)) (tCons (tVar 1) tNil)))))
def spState (K : PySem.W.Frag) : Sp := fun vs H Q _ => ∃ (a : Addr) (ns : List Int), vs = [.ref a] ∧ SqL K H a (ns.map V.int) ∧ ns.length ≤ 63 ∧
  ∀ (p c : Addr) (H' : Hp), (∀ (P : Program) (w : World), StOk ⟨p, c, P, w⟩ H') → Q (.ref p) H'
theorem SqL.len_le {K : PySem.W.Frag} {H : Hp} {a : Addr} {xs : List V} (h : xs.length ≤ 63) : xs.length ≤ sizeLine := by rw [sizeLine_eq]; omega
theorem sqL_upd {K : PySem.W.Frag} {H : Hp} {a p : Addr} {xs : List V} {o : HO} (h : SqL K H a xs) (hp : H p = none) : SqL K (upd H p o) a xs := by
  rcases h with h | h
  · rcases h with h | ⟨ob, h⟩
    · exact .inl (.inl (by rw [upd_ne (ne_of_none h hp)]; exact h))
    · exact .inl (.inr ⟨ob, by rw [upd_ne (ne_of_none h hp)]; exact h⟩)
  · exact .inr h
theorem state_run {K : PySem.W.Frag} {vs : List V} {H : Hp} {Q : VK} {E : XK} (h : spState K vs H Q E) : tState K { nx := fun _ H' => Q .non H', rt := Q } (L2.start ["script", "cells", "cell"] vs) H := by
  obtain ⟨a, ns, rfl, hs, h63, q⟩ := h
  have ec : ∃ ms : List Int, cutV (ns.map V.int) none (some 63) = ms.map V.int ∧ ms.length ≤ 63 := by
    unfold cutV
    rw [← List.map_drop, ← List.map_take]
    refine ⟨_, rfl, ?_⟩
    rw [List.length_take, List.length_drop]; omega
  obtain ⟨ms, ems, hms⟩ := ec
  -- what follows the comprehension
  have rest : ∀ (H1 : Hp) (D : Addr) (zs : List Int), H1 D = some (.lst (zs.map V.int)) → zs.length ≤ 63 →
      (tSeq (tIfS (tTest (tOp rEq (tCB (rLenX K) (tCons (tVar 1) tNil)) (tC (.int 0)))) (tAsg (tLst (tCons (tC (.int 0)) tNil)) (gName 1)) tNext) (tRet (tLst (tCons (tC (.int 0)) (tCons (tVar 1) tNil)))))
        { nx := fun _ H' => Q .non H', rt := Q } ((L2.start ["script", "cells", "cell"] [V.ref a]).set 1 (some (.ref D))) H1 := by
    intro H1 D zs hD hz
    have fin : ∀ (H2 : Hp) (D2 : Addr) (ys : List Int), H2 D2 = some (.lst (ys.map V.int)) → 0 < ys.length → ∀ p, H2 p = none → Q (.ref p) (upd H2 p (.lst [.int 0, .ref D2])) := by
      intro H2 D2 ys hD2 hy p hp
      have hne : p ≠ D2 := fun z => by
        rw [z, hD2] at hp
        cases hp
      exact q p D2 _ fun _ _ => ⟨hne, 0, ys, upd_same, by show upd H2 p _ D2 = _; rw [upd_ne hne.symm]; exact hD2, hy⟩
    refine ⟨_, rfl, _, _, rfl, .inl ⟨_, .of hD, rfl⟩, rfl, _, rfl, ?_⟩
    by_cases h0 : zs.length = 0
    · have e : decide (V.int (((zs.map V.int).length : Nat) : Int) = V.int 0) = true := decide_eq_true (by rw [List.length_map, h0]; rfl)
      rw [e]
      refine L2.iteT ?_
      refine ⟨by show 1 ≤ sizeLine; rw [sizeLine_eq]; decide, fun p hp => ?_⟩
      refine ⟨_, rfl, by show 2 ≤ sizeLine; rw [sizeLine_eq]; decide, fun p2 hp2 => fin _ p [0] upd_same (by decide) p2 hp2⟩
    · have e : decide (V.int (((zs.map V.int).length : Nat) : Int) = V.int 0) = false := decide_eq_false (fun z => by
        have z' := V.int.inj z
        rw [List.length_map] at z'
        omega)
      rw [e]
      refine L2.iteF ?_
      exact ⟨_, rfl, by show 2 ≤ sizeLine; rw [sizeLine_eq]; decide, fun p2 hp2 => fin _ D zs hD (by omega) p2 hp2⟩
  refine ⟨_, rfl, 63, rfl, a, _, rfl, hs, fun p hp => ?_⟩
  rw [ems]
  refine ⟨p, rfl, ⟨_, .of upd_same⟩, fun D hD => ?_⟩
  have hpD : p ≠ D := fun z => by rw [← z, upd_same] at hD; cases hD
  refine lc_list (xs := ms.map V.int) (Qd := fun H' => _) (fun i H' => ∃ zs : List Int, H' D = some (.lst (zs.map V.int)) ∧ zs.length = i ∧ H' p = some (.lst (ms.map V.int))) ⟨[], upd_same, rfl, by rw [upd_ne hpD]; exact upd_same⟩ (fun i H' _ ⟨_, _, _, e⟩ => .of e) (fun i x H' hx ⟨zs, e1, e2, e3⟩ => ?_) (fun H' ⟨zs, e1, e2, e3⟩ => ?_)
  · obtain ⟨z, rfl⟩ : ∃ z, x = V.int z := by
      rw [List.getElem?_map] at hx
      cases hm : ms[i]? with
      | none => rw [hm] at hx; cases hx
      | some z => rw [hm] at hx; exact ⟨z, (Option.some.inj hx).symm⟩
    have hi : i < ms.length := by
      have := (List.getElem?_eq_some_iff.mp hx).1
      rwa [List.length_map] at this
    refine ⟨rfl, ?_⟩
    refine L2.iteT (B := ∃ zs : List Int, H' D = some (.lst (zs.map V.int)) ∧ zs.length = i + 1 ∧ H' p = some (.lst (ms.map V.int))) ?_
    refine ⟨_, rfl, z, rfl, _, e1, by rw [List.length_map, sizeLine_eq]; omega, zs ++ [if z < 0 then -z else z], ?_, by rw [List.length_append, e2]; rfl, by rw [upd_ne hpD]; exact e3⟩
    rw [upd_same, List.map_append]; rfl
  · exact rest H' D zs e1 (by rw [e2, List.length_map]; exact hms)
end DL

set_option Elab.async false
set_option linter.all false
set_option maxRecDepth 100000
/-! DL14: the law itself; from the head's facts to what the walk takes. -/
namespace DL
open PySem PySem.Spec L2
open PyProof.Rows hiding St

def spLawD (K : PySem.W.Frag) : Sp := fun vs H Q _ => ∃ (a : Addr) (ns : List Int), vs = [.ref a] ∧ SqL K H a (ns.map V.int) ∧ ns.length ≤ 63 ∧ ∀ H', Q (.bl true) H'
/-- a block's reading, the state wherever it stands -/
def TA_ (P : Program) (w : World) (m : DS) : TS := fun D' σ H => ∃ S : SA, (S.pr = P ∧ S.wd = w) ∧ TS_ S m D' σ H
theorem pss_any {X : Cx} {sts : List Stmt} {m : DS} {P : Program} {w : World} (h : ∀ S : SA, S.pr = P ∧ S.wd = w → QSs S X sts m) : PSs X sts (TA_ P w m) := ⟨fun pins s σ H D' I ⟨S, z, q⟩ => (h S z).run pins s σ H D' I q⟩
theorem law_run {P : Program} {w : World} {K : PySem.W.Frag} {m : DS} {N : List Str} {k : Nat} (hk : N.length = k + 2) (hm : (m (none :: some (.val .stt) :: List.replicate k none)).wp fun r => r.1 = .rt (.bl true)) {vs : List V} {H : Hp} {Q : VK} {E : XK} (h : spLawD K vs H Q E) :
    tSeq (tAsg (tCall (spState K) [] E0 (tCons (tVar 0) tNil)) (gName 1)) (TA_ P w m) { nx := fun _ H' => Q .non H', rt := Q } (L2.start N vs) H := by
  obtain ⟨a, ns, rfl, hs, h63, q⟩ := h
  have hst : L2.start N [V.ref a] = some (.ref a) :: List.replicate (k + 1) none := by
    unfold L2.start
    rw [hk]; rfl
  rw [hst]
  refine ⟨_, rfl, a, ns, rfl, hs, h63, fun sp sc H' st => ?_⟩
  refine ⟨⟨sp, sc, P, w⟩, ⟨rfl, rfl⟩, fun _ => none, fun _ => none, none :: some (.val .stt) :: List.replicate k none, ⟨(fun _ _ e => nomatch e), (fun _ _ e => nomatch e), st P w, rfl, rfl, ?_, fun i sl e => ?_, fun i j di dj b e => ?_⟩, M.wp_mono hm fun r hr σ' G' F' H'' x g' => ?_⟩
  · simp
  · match i, e with
    | 0, e => cases e
    | 1, e =>
      cases e
      exact ⟨_, rfl, .stt⟩
    | i + 2, e =>
      have e' : (List.replicate k (none : Option Sl))[i]? = some (some sl) := e
      rw [List.getElem?_replicate] at e'
      split at e' <;> cases e'
  · match i, e with
    | 0, e => cases e
    | 1, e => cases e
    | i + 2, e =>
      have e' : (List.replicate k (none : Option Sl))[i]? = some (some (.own di)) := e
      rw [List.getElem?_replicate] at e'
      split at e' <;> cases e'
  · rw [hr]
    intro v rv
    cases rv
    exact q H''
/-- a def by the head's facts -/
theorem fun_of {K : PySem.W.Frag} {x qual : Str} {st : Stmt} {f : Addr} {fd : FuncData} (F : FunD K x qual (defArgs st) (defBody st) (defScope st) [] [] f fd) : L2.Fun K x qual st f fd := by
  obtain ⟨oc, od, dV, kV, doc, pm, an, cdv, ct, osl, e, lk, hcd, hD, hK⟩ := F.ex
  rcases hD with ⟨_, rfl⟩ | ⟨e, _⟩
  · exact ⟨⟨oc, od, kV, doc, pm, an, cdv, ct, osl, e, lk, hcd⟩, F.kp⟩
  · exact absurd rfl e
/-- the head's datum of a def -/
def dd (x : Str) (st : Stmt) : He.DefD := ⟨(x, none), x, x, defArgs st, defBody st, defScope st, [], []⟩
end DL

set_option Elab.async false
set_option linter.all false
set_option maxRecDepth 100000
/-! DL15: names forgotten; all draws, computed; loops whose turns do not hang together. -/
namespace DL
open PySem PySem.Spec L2
open PyProof.Rows hiding St

/-- names of which nothing is said from now on -/
def mForget (ws : List Nat) (m : DS) : DS := fun env => m (wipeE env ws)
section
variable {S : SA} {X : Cx} {G F H : Hp} {σ : L2.St} {env : DEnv}
theorem Good.forget (g : Good S G F σ H env) (ws : List Nat) : Good S G F σ H (wipeE env ws) := by
  have sl' : ∀ (i : Nat) (sl : Sl), (wipeE env ws)[i]? = some (some sl) → env[i]? = some (some sl) := fun i sl e => by
    have hi : i ∉ ws := fun hm => wipeE_in hm e
    rw [wipeE_out hi] at e
    exact e
  exact ⟨g.kp, g.fg, g.st, g.ns, g.nc, by rw [wipeE_len]; exact g.len, fun i sl e => g.slot i sl (sl' i sl e), fun j k dj dk a e1 e2 e3 e4 => g.dist j k dj dk a (sl' _ _ e1) (sl' _ _ e2) e3 e4⟩
theorem qforget (ws : List Nat) {sts : List Stmt} {m : DS} (h : QSs S X sts m) : QSs S X sts (mForget ws m) :=
  pss_weak h fun D' σ H ⟨G, F, env, g, q⟩ => ⟨G, F, wipeE env ws, g.forget ws, q⟩
end
/-! ### all draws -/
def M.all {α : Type} (p : α → Bool) : M α → Bool
  | .ret a => p a
  | .fail => false
  | .ask k f => decide (0 < k) && (decide (k < 2 ^ 30) && (List.range k.toNat).all fun i => M.all p (f (Int.ofNat i)))
theorem M.all_wp {α : Type} {p : α → Bool} {m : M α} (h : m.all p = true) : m.wp fun a => p a = true := by
  induction m with
  | ret a => exact h
  | fail => cases h
  | ask k f ih =>
    simp only [M.all, Bool.and_eq_true, decide_eq_true_eq, List.all_eq_true, List.mem_range] at h
    refine ⟨⟨h.1, h.2.1⟩, fun r h1 h2 => ?_⟩
    have e := h.2.2 r.toNat (by omega)
    have e2 : Int.ofNat r.toNat = r := Int.toNat_of_nonneg h1
    rw [e2] at e
    exact ih r e
def M.outs {α : Type} : M α → Option (List α)
  | .ret a => some [a]
  | .fail => none
  | .ask k f => if decide (0 < k) && decide (k < 2 ^ 30) then ((List.range k.toNat).mapM fun i => M.outs (f (Int.ofNat i))).map List.flatten else none
theorem mapM_some {α β : Type} {f : α → Option β} : ∀ {l : List α} {r : List β}, l.mapM f = some r → ∀ a ∈ l, ∃ b ∈ r, f a = some b
  | [], _, _, a, h => by cases h
  | x :: l, r, e, a, h => by
    rw [List.mapM_cons] at e
    cases e1 : f x with
    | none => rw [e1] at e; cases e
    | some b =>
      rw [e1] at e
      cases e2 : l.mapM f with
      | none => rw [e2] at e; cases e
      | some bs =>
        rw [e2] at e
        cases e
        rcases List.mem_cons.mp h with rfl | h
        · exact ⟨b, List.mem_cons_self, e1⟩
        · obtain ⟨c, h1, h2⟩ := mapM_some e2 a h
          exact ⟨c, List.mem_cons_of_mem _ h1, h2⟩
theorem M.outs_wp {α : Type} {m : M α} : ∀ {L : List α}, m.outs = some L → m.wp (· ∈ L) := by
  induction m with
  | ret a => intro L h; cases h; exact List.mem_cons_self
  | fail => intro L h; cases h
  | ask k f ih =>
    intro L h
    simp only [M.outs] at h
    split at h
    · rename_i hc
      simp only [Bool.and_eq_true, decide_eq_true_eq] at hc
      obtain ⟨r, e1, rfl⟩ := Option.map_eq_some_iff.mp h
      refine ⟨hc, fun i h1 h2 => ?_⟩
      obtain ⟨b, hb, e⟩ := mapM_some e1 i.toNat (List.mem_range.mpr (by omega))
      have e2 : Int.ofNat i.toNat = i := Int.toNat_of_nonneg h1
      rw [e2] at e
      exact M.wp_mono (ih i e) fun a ha => List.mem_flatten.mpr ⟨b, hb, ha⟩
    · cases h
/-! ### statements one behind another -/
theorem wp_seq {m1 m2 : DS} {env : DEnv} {P : Fl × DEnv → Prop} (h : (m1 env).wp fun r => match r.1 with | .nx => (m2 r.2).wp P | f => P (f, r.2)) : (mSeq m1 m2 env).wp P := by
  unfold mSeq
  refine M.wp_bind.mpr (M.wp_mono h fun r hr => ?_)
  obtain ⟨f, e⟩ := r
  cases f <;> exact hr
theorem seq_ret {m1 m2 : DS} {env env' : DEnv} (h : m1 env = .ret (.nx, env')) : mSeq m1 m2 env = m2 env' := by
  unfold mSeq
  rw [h]; rfl
/-- turns that leave all but the names ws as it was, and go on: each is looked at for itself -/
theorem wp_forL {gg : DG} {mb : DS} {ws : List Nat} {e : DEnv} {P : Fl × DEnv → Prop} (hg : ∀ d e', wipeE e' ws = wipeE e ws → (gg d e').wp fun e'' => wipeE e'' ws = wipeE e ws)
    (hb : (mb (wipeE e ws)).wp fun r => (r.1 = .nx ∨ r.1 = .ct) ∧ wipeE r.2 ws = wipeE e ws) (hp : ∀ e', wipeE e' ws = wipeE e ws → P (.nx, e')) :
    ∀ (ds : List D) (e' : DEnv), wipeE e' ws = wipeE e ws → (mForL gg (mForget ws mb) ds e').wp P
  | [], e', h => hp e' h
  | d :: ds, e', h => by
    unfold mForL
    refine M.wp_bind.mpr (M.wp_mono (hg d e' h) fun e1 h1 => M.wp_bind.mpr ?_)
    show (mb (wipeE e1 ws)).wp _
    rw [h1]
    refine M.wp_mono hb fun r hr => ?_
    obtain ⟨f, e2⟩ := r
    obtain ⟨h2, h3⟩ := hr
    rcases h2 with h2 | h2
    · have h2 : f = .nx := h2
      subst h2
      exact wp_forL hg hb hp ds e2 h3
    · have h2 : f = .ct := h2
      subst h2
      exact wp_forL hg hb hp ds e2 h3
end DL

set_option Elab.async false
set_option linter.all false
set_option maxRecDepth 100000
/-! DL16: trees that are the same, by computing. -/
namespace DL
open PySem PySem.Spec L2
open PyProof.Rows hiding St
mutual
def D.same : D → D → Bool
  | .non, d => match d with
    | .non => true
    | _ => false
  | .bl a, d => match d with
    | .bl b => a == b
    | _ => false
  | .int a, d => match d with
    | .int b => decide (a = b)
    | _ => false
  | .str a, d => match d with
    | .str b => decide (a = b)
    | _ => false
  | .tup xs, d => match d with
    | .tup ys => D.sameL xs ys
    | _ => false
  | .lst xs, d => match d with
    | .lst ys => D.sameL xs ys
    | _ => false
  | .dct t xs, d => match d with
    | .dct u ys => (t == u) && D.sameK xs ys
    | _ => false
  | .dcn xs, d => match d with
    | .dcn ys => D.sameK xs ys
    | _ => false
  | .stt, d => match d with
    | .stt => true
    | _ => false
def D.sameL : List D → List D → Bool
  | [], ds => match ds with
    | [] => true
    | _ :: _ => false
  | x :: xs, ds => match ds with
    | [] => false
    | y :: ys => D.same x y && D.sameL xs ys
def D.sameK : List (D × D) → List (D × D) → Bool
  | [], ds => match ds with
    | [] => true
    | _ :: _ => false
  | (x, u) :: xs, ds => match ds with
    | [] => false
    | (y, v) :: ys => D.same x y && (D.same u v && D.sameK xs ys)
end
mutual
theorem D.same_eq : ∀ d e : D, D.same d e = true → d = e
  | .non, e, h => by cases e <;> simp [D.same] at h ⊢
  | .bl a, e, h => by cases e <;> simp [D.same] at h ⊢; exact h
  | .int a, e, h => by cases e <;> simp [D.same] at h ⊢; exact h
  | .str a, e, h => by cases e <;> simp [D.same] at h ⊢; exact h
  | .stt, e, h => by cases e <;> simp [D.same] at h ⊢
  | .tup xs, e, h => by
    cases e <;> simp [D.same] at h ⊢
    exact D.sameL_eq xs _ h
  | .lst xs, e, h => by
    cases e <;> simp [D.same] at h ⊢
    exact D.sameL_eq xs _ h
  | .dct t xs, e, h => by
    cases e <;> simp [D.same] at h ⊢
    exact ⟨h.1, D.sameK_eq xs _ h.2⟩
  | .dcn xs, e, h => by
    cases e <;> simp [D.same] at h ⊢
    exact D.sameK_eq xs _ h
theorem D.sameL_eq : ∀ d e : List D, D.sameL d e = true → d = e
  | [], e, h => by cases e <;> simp [D.sameL] at h ⊢
  | x :: xs, e, h => by
    cases e <;> simp [D.sameL] at h ⊢
    exact ⟨D.same_eq x _ h.1, D.sameL_eq xs _ h.2⟩
theorem D.sameK_eq : ∀ d e : List (D × D), D.sameK d e = true → d = e
  | [], e, h => by cases e <;> simp [D.sameK] at h ⊢
  | (x, u) :: xs, e, h => by
    cases e with
    | nil => simp [D.sameK] at h
    | cons p ys =>
      obtain ⟨y, v⟩ := p
      simp [D.sameK] at h ⊢
      exact ⟨⟨D.same_eq x _ h.1, D.same_eq u _ h.2.1⟩, D.sameK_eq xs _ h.2.2⟩
end
def Sl.same : Option Sl → Option Sl → Bool
  | none, none => true
  | some (.val a), some (.val b) => D.same a b
  | some (.own a), some (.own b) => D.same a b
  | some (.bor a), some (.bor b) => D.same a b
  | _, _ => false
def envSame : DEnv → DEnv → Bool
  | [], [] => true
  | a :: as, b :: bs => Sl.same a b && envSame as bs
  | _, _ => false
theorem Sl.same_eq : ∀ a b : Option Sl, Sl.same a b = true → a = b
  | none, none, _ => rfl
  | some (.val a), some (.val b), h => by rw [D.same_eq a b h]
  | some (.own a), some (.own b), h => by rw [D.same_eq a b h]
  | some (.bor a), some (.bor b), h => by rw [D.same_eq a b h]
  | none, some _, h => by cases h
  | some (.val _), none, h => by cases h
  | some (.own _), none, h => by cases h
  | some (.bor _), none, h => by cases h
  | some (.val _), some (.own _), h => by cases h
  | some (.val _), some (.bor _), h => by cases h
  | some (.own _), some (.val _), h => by cases h
  | some (.own _), some (.bor _), h => by cases h
  | some (.bor _), some (.val _), h => by cases h
  | some (.bor _), some (.own _), h => by cases h
theorem envSame_eq : ∀ a b : DEnv, envSame a b = true → a = b
  | [], [], _ => rfl
  | a :: as, b :: bs, h => by
    simp only [envSame, Bool.and_eq_true] at h
    rw [Sl.same_eq a b h.1, envSame_eq as bs h.2]
  | [], _ :: _, h => by cases h
  | _ :: _, [], h => by cases h
end DL

set_option Elab.async false
set_option linter.all false
set_option maxRecDepth 100000
/-! DL17: mirrors by functions over plain data: what a mirror does is told by a function without frames. -/
namespace DL
open PySem PySem.Spec L2
open PyProof.Rows hiding St

/-- texts that are the same, quickly -/
def natsEqB : List Nat → List Nat → Bool
  | [], [] => true
  | a :: as, b :: bs => Nat.beq a b && natsEqB as bs
  | _, _ => false
theorem natsEqB_iff : ∀ a b : List Nat, natsEqB a b = true ↔ a = b
  | [], [] => by simp [natsEqB]
  | [], b :: bs => by simp [natsEqB]
  | a :: as, [] => by simp [natsEqB]
  | a :: as, b :: bs => by
    rw [natsEqB, Bool.and_eq_true, natsEqB_iff as bs, List.cons.injEq]
    exact and_congr_left' (by rw [Nat.beq_eq])
theorem strEq_iff (a b : Str) : natsEqB a.cps.toList b.cps.toList = true ↔ a = b := by
  rw [natsEqB_iff]
  constructor
  · intro h
    obtain ⟨⟨x⟩⟩ := a
    obtain ⟨⟨y⟩⟩ := b
    cases h; rfl
  · rintro rfl; rfl
instance (priority := 2000) fastStr : DecidableEq Str := fun a b => decidable_of_bool _ (strEq_iff a b)
/-- m does what t tells: what holds of all that stands for t's results holds of m's -/
structure Rf {α δ : Type} (R : α → δ → Prop) (m : M δ) (t : M α) : Prop where
  of ::
  run : ∀ P : δ → Prop, (t.wp fun a => ∀ d, R a d → P d) → m.wp P
section
variable {α β γ δ ε : Type} {R : α → δ → Prop}
theorem Rf.ret {a : α} {d : δ} (h : R a d) : Rf R (.ret d) (.ret a) := .of fun P q => q d h
theorem Rf.fail {m : M δ} : Rf R m .fail := .of fun P q => q.elim
theorem Rf.bind {R' : β → ε → Prop} {m : M δ} {t : M α} {g : δ → M ε} {h : α → M β} (a : Rf R m t) (b : ∀ x d, R x d → Rf R' (g d) (h x)) : Rf R' (m >>= g) (t >>= h) := .of fun P q =>
  M.wp_bind.mpr (a.run _ (M.wp_mono (M.wp_bind.mp q) fun x q d r => (b x d r).run P q))
theorem Rf.ask {k : Int} {f : Int → M δ} {g : Int → M α} (h : ∀ i, Rf R (f i) (g i)) : Rf R (.ask k f) (.ask k g) := .of fun P q => ⟨q.1, fun r h1 h2 => (h r).run P (q.2 r h1 h2)⟩
theorem Rf.mono {R' : α → δ → Prop} {m : M δ} {t : M α} (h : Rf R m t) (w : ∀ a d, R a d → R' a d) : Rf R' m t := .of fun P q => h.run P (M.wp_mono q fun a q d r => q d (w a d r))
theorem Rf.wp {m : M δ} {t : M α} (h : Rf R m t) {P : δ → Prop} (q : t.wp fun a => ∀ d, R a d → P d) : m.wp P := h.run P q
end
/-- the value that stands for a -/
def Re {α : Type} (e : α → D) : α → D → Prop := fun a d => d = e a
abbrev Ev {α : Type} (e : α → D) (m : M D) (t : M α) : Prop := Rf (Re e) m t
def Rb : Bool → Bool → Prop := fun a b => b = a
abbrev EvT (m : M Bool) (t : M Bool) : Prop := Rf Rb m t

/-! ### plain data as trees -/
def eI : Int → D := .int
def eS : Str → D := .str
def eB : Bool → D := .bl
def eN : Unit → D := fun _ => .non
def eD : D → D := id
def eL {α : Type} (e : α → D) : List α → D := fun xs => .lst (xs.map e)
/-- tuples of any length -/
def eV {α : Type} (e : α → D) : List α → D := fun xs => .tup (xs.map e)
def eT1 {α : Type} (e : α → D) : α → D := fun a => .tup [e a]
def eT2 {α β : Type} (e : α → D) (f : β → D) : α × β → D := fun p => .tup [e p.1, f p.2]
def eT3 {α β γ : Type} (e : α → D) (f : β → D) (g : γ → D) : α × β × γ → D := fun p => .tup [e p.1, f p.2.1, g p.2.2]
def eT4 {α β γ δ : Type} (e : α → D) (f : β → D) (g : γ → D) (h : δ → D) : α × β × γ × δ → D := fun p => .tup [e p.1, f p.2.1, g p.2.2.1, h p.2.2.2]
def eO {α : Type} (e : α → D) : Option α → D
  | none => .non
  | some a => e a
/-- an encoding that is plain, at most n deep, by which what is the same stands for the same -/
structure Ec {α : Type} [DecidableEq α] (n : Nat) (e : α → D) : Prop where
  pl : ∀ a, (e a).pl n = true
  beq : ∀ a b, D.beq (e a) (e b) = decide (a = b)
mutual
theorem D.pl_mono : ∀ (d : D) {n m : Nat}, n ≤ m → d.pl n = true → d.pl m = true
  | .non, _, _, _, _ => by simp [D.pl]
  | .int _, _, _, _, _ => by simp [D.pl]
  | .str _, _, _, _, _ => by simp [D.pl]
  | .bl _, _, _, _, h => by simp [D.pl] at h
  | .dct _ _, _, _, _, h => by simp [D.pl] at h
  | .dcn _, _, _, _, h => by simp [D.pl] at h
  | .stt, _, _, _, h => by simp [D.pl] at h
  | .tup xs, 0, _, _, h => by simp [D.pl] at h
  | .lst xs, 0, _, _, h => by simp [D.pl] at h
  | .tup xs, n + 1, 0, hl, _ => by omega
  | .lst xs, n + 1, 0, hl, _ => by omega
  | .tup xs, n + 1, m + 1, hl, h => by
    simp only [D.pl] at h ⊢
    exact D.plL_mono xs (by omega) h
  | .lst xs, n + 1, m + 1, hl, h => by
    simp only [D.pl] at h ⊢
    exact D.plL_mono xs (by omega) h
theorem D.plL_mono : ∀ (ds : List D) {n m : Nat}, n ≤ m → D.plL n ds = true → D.plL m ds = true
  | [], _, _, _, _ => by simp [D.plL]
  | d :: ds, n, m, hl, h => by
    simp only [D.plL, Bool.and_eq_true] at h ⊢
    exact ⟨D.pl_mono d hl h.1, D.plL_mono ds hl h.2⟩
end
section
variable {α β γ δ : Type} [DecidableEq α] [DecidableEq β] [DecidableEq γ] [DecidableEq δ] {e : α → D} {f : β → D} {g : γ → D} {h : δ → D} {n m k l : Nat}
theorem cI : Ec 0 eI := ⟨fun a => by simp [eI, D.pl], fun a b => by simp [eI, D.beq]⟩
theorem cS : Ec 0 eS := ⟨fun a => by simp [eS, D.pl], fun a b => by simp [eS, D.beq]⟩
theorem cN : Ec 0 eN := ⟨fun a => by simp [eN, D.pl], fun a b => by simp [eN, D.beq]⟩
theorem plL_map (c : Ec n e) : ∀ xs : List α, D.plL n (xs.map e) = true
  | [] => by simp [D.plL]
  | x :: xs => by simp [D.plL, c.pl x, plL_map c xs]
theorem beqL_map (c : Ec n e) : ∀ xs ys : List α, D.beqL (xs.map e) (ys.map e) = decide (xs = ys)
  | [], [] => by simp [D.beqL]
  | [], y :: ys => by simp [D.beqL]
  | x :: xs, [] => by simp [D.beqL]
  | x :: xs, y :: ys => by
    rw [List.map_cons, List.map_cons, D.beqL, c.beq, beqL_map c xs ys]
    by_cases h1 : x = y <;> by_cases h2 : xs = ys <;> simp [h1, h2]
theorem cL (c : Ec n e) : Ec (n + 1) (eL e) := ⟨fun a => by simp only [eL, D.pl]; exact plL_map c a, fun a b => by simp only [eL, D.beq]; exact beqL_map c a b⟩
theorem cV (c : Ec n e) : Ec (n + 1) (eV e) := ⟨fun a => by simp only [eV, D.pl]; exact plL_map c a, fun a b => by simp only [eV, D.beq]; exact beqL_map c a b⟩
theorem cT1 (c : Ec n e) : Ec (n + 1) (eT1 e) := ⟨fun a => by simp [eT1, D.pl, D.plL, c.pl], fun a b => by simp [eT1, D.beq, D.beqL, c.beq]⟩
theorem cT2 (c : Ec n e) (d : Ec m f) : Ec (max n m + 1) (eT2 e f) :=
  ⟨fun a => by simp only [eT2, D.pl, D.plL, D.pl_mono _ (Nat.le_max_left n m) (c.pl a.1), D.pl_mono _ (Nat.le_max_right n m) (d.pl a.2)]; rfl,
   fun a b => by
    obtain ⟨a1, a2⟩ := a
    obtain ⟨b1, b2⟩ := b
    simp only [eT2, D.beq, D.beqL, c.beq, d.beq]
    by_cases h1 : a1 = b1 <;> by_cases h2 : a2 = b2 <;> simp [h1, h2]⟩
theorem cT3 (c : Ec n e) (d : Ec m f) (c3 : Ec k g) : Ec (max n (max m k) + 1) (eT3 e f g) :=
  ⟨fun a => by
    simp only [eT3, D.pl, D.plL, D.pl_mono _ (Nat.le_max_left n (max m k)) (c.pl a.1), D.pl_mono _ (show m ≤ max n (max m k) by omega) (d.pl a.2.1), D.pl_mono _ (show k ≤ max n (max m k) by omega) (c3.pl a.2.2)]; rfl,
   fun a b => by
    obtain ⟨a1, a2, a3⟩ := a
    obtain ⟨b1, b2, b3⟩ := b
    simp only [eT3, D.beq, D.beqL, c.beq, d.beq, c3.beq]
    by_cases h1 : a1 = b1 <;> by_cases h2 : a2 = b2 <;> by_cases h3 : a3 = b3 <;> simp [h1, h2, h3]⟩
end
end DL

set_option Elab.async false
set_option linter.all false
set_option maxRecDepth 100000
/-! DL18: loops of mirrors by loops over plain states. -/
namespace DL
open PySem PySem.Spec L2
open PyProof.Rows hiding St

/-! ### plain loops -/
inductive Fw (σ ρ : Type) where
  | go (s : σ) | brk (s : σ) | back (r : ρ)
def loopM {α σ : Type} (f : α → σ → M σ) : List α → σ → M σ
  | [], s => .ret s
  | x :: xs, s => f x s >>= fun s' => loopM f xs s'
def loopR {α σ ρ : Type} (f : α → σ → M (Fw σ ρ)) : List α → σ → M (Fw σ ρ)
  | [], s => .ret (.go s)
  | x :: xs, s => f x s >>= fun o => match o with
    | .go s' => loopR f xs s'
    | .brk s' => .ret (.go s')
    | .back r => .ret (.back r)
def whileM {σ : Type} (c : σ → M Bool) (f : σ → M σ) : Nat → σ → M σ
  | 0, _ => .fail
  | n + 1, s => c s >>= fun k => if k then f s >>= fun s' => whileM c f n s' else .ret s
def whileR {σ ρ : Type} (c : σ → M Bool) (f : σ → M (Fw σ ρ)) : Nat → σ → M (Fw σ ρ)
  | 0, _ => .fail
  | n + 1, s => c s >>= fun k => if k then f s >>= fun o => match o with
    | .go s' => whileR c f n s'
    | .brk s' => .ret (.go s')
    | .back r => .ret (.back r) else .ret (.go s)
section
variable {α σ ρ : Type} {e : α → D} {eρ : ρ → D} {gg : DG} {mb : DS} {E : σ → DEnv} {E1 : α → σ → DEnv}
/-- goes on, the frame told by s -/
def RN (E : σ → DEnv) : σ → Fl × DEnv → Prop := fun s p => p = (.nx, E s)
/-- a turn's end -/
def RX (E : σ → DEnv) : σ → Fl × DEnv → Prop := fun s p => p = (.nx, E s) ∨ p = (.ct, E s)
def RTn (E : σ → DEnv) (eρ : ρ → D) : Fw σ ρ → Fl × DEnv → Prop
  | .go s, p => p = (.nx, E s) ∨ p = (.ct, E s)
  | .brk s, p => p = (.bk, E s)
  | .back r, p => p.1 = .rt (eρ r)
def RLp (E : σ → DEnv) (eρ : ρ → D) : Fw σ ρ → Fl × DEnv → Prop
  | .go s, p => p = (.nx, E s)
  | .brk _, _ => False
  | .back r, p => p.1 = .rt (eρ r)
theorem rf_loopM {f : α → σ → M σ} (hg : ∀ x s, gg (e x) (E s) = .ret (E1 x s)) (hb : ∀ x s, Rf (RX E) (mb (E1 x s)) (f x s)) : ∀ (xs : List α) (s : σ), Rf (RN E) (mForL gg mb (xs.map e) (E s)) (loopM f xs s)
  | [], s => Rf.ret rfl
  | x :: xs, s => by
    show Rf _ (gg (e x) (E s) >>= fun env1 => mb env1 >>= _) (f x s >>= _)
    rw [hg]
    show Rf _ (mb (E1 x s) >>= _) _
    refine (hb x s).bind fun s' p r => ?_
    have ih := rf_loopM hg hb xs s'
    rcases r with r | r <;> subst r <;> exact ih
theorem rf_loopR {f : α → σ → M (Fw σ ρ)} (hg : ∀ x s, gg (e x) (E s) = .ret (E1 x s)) (hb : ∀ x s, Rf (RTn E eρ) (mb (E1 x s)) (f x s)) : ∀ (xs : List α) (s : σ), Rf (RLp E eρ) (mForL gg mb (xs.map e) (E s)) (loopR f xs s)
  | [], s => Rf.ret rfl
  | x :: xs, s => by
    show Rf _ (gg (e x) (E s) >>= fun env1 => mb env1 >>= _) (f x s >>= _)
    rw [hg]
    show Rf _ (mb (E1 x s) >>= _) _
    refine (hb x s).bind fun o p r => ?_
    cases o with
    | go s' =>
      have ih := rf_loopR hg hb xs s'
      rcases r with r | r <;> subst r <;> exact ih
    | brk s' =>
      have r : p = (.bk, E s') := r
      subst r; exact Rf.ret rfl
    | back r' =>
      obtain ⟨fl, env2⟩ := p
      have r1 : fl = .rt (eρ r') := r
      subst r1; exact Rf.ret rfl
theorem rf_whileM {c : DT} {tc : σ → M Bool} {f : σ → M σ} (hc : ∀ s, EvT (c (E s)) (tc s)) (hb : ∀ s, Rf (RX E) (mb (E s)) (f s)) : ∀ (n : Nat) (s : σ), Rf (RN E) (mWhile c mb n (E s)) (whileM tc f n s)
  | 0, s => Rf.fail
  | n + 1, s => by
    refine (hc s).bind fun k k' hk => ?_
    have hk : k' = k := hk
    subst hk
    cases k' with
    | true =>
      refine (hb s).bind fun s' p r => ?_
      have ih := rf_whileM hc hb n s'
      rcases r with r | r <;> subst r <;> exact ih
    | false => exact Rf.ret rfl
theorem rf_whileR {c : DT} {tc : σ → M Bool} {f : σ → M (Fw σ ρ)} (hc : ∀ s, EvT (c (E s)) (tc s)) (hb : ∀ s, Rf (RTn E eρ) (mb (E s)) (f s)) : ∀ (n : Nat) (s : σ), Rf (RLp E eρ) (mWhile c mb n (E s)) (whileR tc f n s)
  | 0, s => Rf.fail
  | n + 1, s => by
    refine (hc s).bind fun k k' hk => ?_
    have hk : k' = k := hk
    subst hk
    cases k' with
    | true =>
      refine (hb s).bind fun o p r => ?_
      cases o with
      | go s' =>
        have ih := rf_whileR hc hb n s'
        rcases r with r | r <;> subst r <;> exact ih
      | brk s' =>
        have r : p = (.bk, E s') := r
        subst r; exact Rf.ret rfl
      | back r' =>
        obtain ⟨fl, env2⟩ := p
        have r1 : fl = .rt (eρ r') := r
        subst r1; exact Rf.ret rfl
    | false => exact Rf.ret rfl
end

/-! ### expressions -/
section
variable {α β γ δ σ ρ : Type} {R : β → δ → Prop} {e : α → D} {f : β → D}
theorem ev_ret {a : α} {m : M D} (h : m = .ret (e a)) : Ev e m (.ret a) := by rw [h]; exact Rf.ret rfl
theorem et_ret {a : Bool} {m : M Bool} (h : m = .ret a) : EvT m (.ret a) := by rw [h]; exact Rf.ret rfl
theorem x_bind {m : M D} {t : M α} {g : D → M δ} {k : α → M β} (a : Ev e m t) (b : ∀ x, Rf R (g (e x)) (k x)) : Rf R (m >>= g) (t >>= k) := a.bind fun x d r => by
  have r : d = e x := r
  subst r; exact b x
theorem x_bindP {m : M D} {d : D} {g : D → M δ} {t : M β} (a : m = .ret d) (b : Rf R (g d) t) : Rf R (m >>= g) t := by rw [a]; exact b
theorem x_test {m : M Bool} {t : M Bool} {g : Bool → M δ} {k : Bool → M β} (a : EvT m t) (b : ∀ x, Rf R (g x) (k x)) : Rf R (m >>= g) (t >>= k) := a.bind fun x d r => by
  have r : d = x := r
  subst r; exact b d
theorem x_testP {m : M Bool} {k : Bool} {g : Bool → M δ} {t : M β} (a : m = .ret k) (b : Rf R (g k) t) : Rf R (m >>= g) t := by rw [a]; exact b
/-- arguments, from the left -/
theorem a_cons {ma : DE} {ms : DA} {env : DEnv} {t : M α} {g : List D → M δ} {k : α → M β} (a : Ev e (ma env) t) (b : ∀ x, Rf R (ms env >>= fun xs => g (e x :: xs)) (k x)) : Rf R (aCons ma ms env >>= g) (t >>= k) := by
  have h : (aCons ma ms env >>= g) = (ma env >>= fun x => ms env >>= fun xs => g (x :: xs)) := by
    show ((ma env).bind fun x => (ms env).bind fun xs => M.ret (x :: xs)).bind g = _
    rw [M.bind_assoc']
    congr 1; funext x
    rw [M.bind_assoc'] <;> rfl
  rw [h]
  exact x_bind a b
theorem a_consP {ma : DE} {ms : DA} {env : DEnv} {d : D} {g : List D → M δ} {t : M β} (a : ma env = .ret d) (b : Rf R (ms env >>= fun xs => g (d :: xs)) t) : Rf R (aCons ma ms env >>= g) t := by
  have h : (aCons ma ms env >>= g) = (ma env >>= fun x => ms env >>= fun xs => g (x :: xs)) := by
    show ((ma env).bind fun x => (ms env).bind fun xs => M.ret (x :: xs)).bind g = _
    rw [M.bind_assoc']
    congr 1; funext x
    rw [M.bind_assoc'] <;> rfl
  rw [h]
  exact x_bindP a b
theorem p_nil {env : DEnv} : aNil env = .ret [] := rfl
theorem p_cons {ma : DE} {ms : DA} {env : DEnv} {d : D} {ds : List D} (a : ma env = .ret d) (b : ms env = .ret ds) : aCons ma ms env = .ret (d :: ds) := by
  unfold aCons; rw [a]; show (ms env >>= _) = _; rw [b]; rfl
theorem p_call {op : List D → M D} {ms : DA} {env : DEnv} {ds : List D} {d : D} (a : ms env = .ret ds) (h : op ds = .ret d) : mCall op ms env = .ret d := by
  unfold mCall; rw [a]; exact h
theorem p_bin {op : D → D → M D} {ma mb : DE} {env : DEnv} {x y z : D} (a : ma env = .ret x) (b : mb env = .ret y) (h : op x y = .ret z) : mBin op ma mb env = .ret z := by
  unfold mBin; rw [a]; show (mb env >>= _) = _; rw [b]; exact h
theorem p_binT {op : D → D → M D} {ma mb : DE} {env : DEnv} {x y : D} {k : Bool} (a : ma env = .ret x) (b : mb env = .ret y) (h : op x y = .ret (.bl k)) : mBinT op ma mb env = .ret k := by
  unfold mBinT; rw [p_bin a b h]; rfl
theorem p_and {ta tb : DT} {env : DEnv} {a b : Bool} (ha : ta env = .ret a) (hb : tb env = .ret b) : mAnd ta tb env = .ret (a && b) := by
  unfold mAnd; rw [ha]; cases a
  · rfl
  · exact hb
theorem p_or {ta tb : DT} {env : DEnv} {a b : Bool} (ha : ta env = .ret a) (hb : tb env = .ret b) : mOr ta tb env = .ret (a || b) := by
  unfold mOr; rw [ha]; cases a
  · exact hb
  · rfl
theorem p_not {ta : DT} {env : DEnv} {a : Bool} (ha : ta env = .ret a) : mNot ta env = .ret (!a) := by
  unfold mNot; rw [ha]; rfl
theorem p_tru {m : DE} {env : DEnv} {d : D} {k : Bool} (a : m env = .ret d) (h : truM d = .ret k) : mTru m env = .ret k := by
  unfold mTru; rw [a]; exact h
/-- tests that do not come out at once -/
theorem r_and {ta tb : DT} {env : DEnv} {a b : M Bool} (ha : EvT (ta env) a) (hb : EvT (tb env) b) : EvT (mAnd ta tb env) (a >>= fun k => if k then b else .ret false) := x_test ha fun k => by
  cases k
  · exact Rf.ret rfl
  · exact hb
theorem r_or {ta tb : DT} {env : DEnv} {a b : M Bool} (ha : EvT (ta env) a) (hb : EvT (tb env) b) : EvT (mOr ta tb env) (a >>= fun k => if k then .ret true else b) := x_test ha fun k => by
  cases k
  · exact hb
  · exact Rf.ret rfl
theorem r_andP {ta tb : DT} {env : DEnv} {a : Bool} {b : M Bool} (ha : ta env = .ret a) (hb : EvT (tb env) b) : EvT (mAnd ta tb env) (if a then b else .ret false) := x_testP ha (by
  cases a
  · exact Rf.ret rfl
  · exact hb)
theorem r_orP {ta tb : DT} {env : DEnv} {a : Bool} {b : M Bool} (ha : ta env = .ret a) (hb : EvT (tb env) b) : EvT (mOr ta tb env) (if a then .ret true else b) := x_testP ha (by
  cases a
  · exact hb
  · exact Rf.ret rfl)
theorem r_not {ta : DT} {env : DEnv} {a : M Bool} (ha : EvT (ta env) a) : EvT (mNot ta env) (a >>= fun k => .ret !k) := x_test ha fun k => Rf.ret rfl
theorem r_asB {m : M D} {t : M Bool} (h : Ev eB m t) : EvT (m >>= asB) t := .of fun P q => M.wp_bind.mpr (h.run _ (M.wp_mono q fun a q d r => by
  have r : d = eB a := r
  subst r; exact q a rfl))
/-! ### what is done to plain data -/
theorem dEq_pl {d d' : D} (h : d.pl 64 = true) (h' : d'.pl 64 = true) : dEq d d' = .ret (.bl (D.beq d d')) := by
  cases d <;> first | (simp [D.pl] at h; done) | (unfold dEq; simp only [h, h']; rfl)
theorem dNe_pl {d d' : D} (h : d.pl 64 = true) (h' : d'.pl 64 = true) : dNe d d' = .ret (.bl (!D.beq d d')) := by
  cases d <;> first | (simp [D.pl] at h; done) | (unfold dNe; simp only [h, h']; rfl)
section
variable [DecidableEq α] {n : Nat}
theorem o_eqE (c : Ec n e) (hn : n ≤ 64 := by decide) (a b : α) : dEq (e a) (e b) = .ret (eB (decide (a = b))) := by
  rw [dEq_pl (D.pl_mono _ hn (c.pl a)) (D.pl_mono _ hn (c.pl b)), c.beq]; rfl
theorem o_neE (c : Ec n e) (hn : n ≤ 64 := by decide) (a b : α) : dNe (e a) (e b) = .ret (eB (!decide (a = b))) := by
  rw [dNe_pl (D.pl_mono _ hn (c.pl a)) (D.pl_mono _ hn (c.pl b)), c.beq]; rfl
theorem memD_map (c : Ec n e) (a : α) : ∀ xs : List α, memD (e a) (xs.map e) = decide (a ∈ xs)
  | [] => by simp [memD]
  | x :: xs => by
    have ih := memD_map c a xs
    unfold memD at ih ⊢
    rw [List.map_cons, List.any_cons, ih, c.beq]
    by_cases h : x = a
    · simp [h]
    · have h' : ¬ a = x := fun z => h z.symm
      simp [h, h']
theorem o_inL (c : Ec n e) (hn : n ≤ 63 := by decide) (a : α) (xs : List α) : dInX (e a) (eL e xs) = .ret (eB (decide (a ∈ xs))) := by
  show dIn (e a) (.lst (xs.map e)) = _
  have h1 := D.pl_mono _ hn (c.pl a)
  have h2 := D.plL_mono _ hn (plL_map c xs)
  cases hd : e a <;> rw [hd] at h1 <;> first | (simp [D.pl] at h1; done) | (unfold dIn; simp only [h1, h2]; rw [← hd, memD_map c]; rfl)
theorem o_inV (c : Ec n e) (hn : n ≤ 63 := by decide) (a : α) (xs : List α) : dInX (e a) (eV e xs) = .ret (eB (decide (a ∈ xs))) := by
  show dIn (e a) (.tup (xs.map e)) = _
  have h1 := D.pl_mono _ hn (c.pl a)
  have h2 := D.plL_mono _ hn (plL_map c xs)
  cases hd : e a <;> rw [hd] at h1 <;> first | (simp [D.pl] at h1; done) | (unfold dIn; simp only [h1, h2]; rw [← hd, memD_map c]; rfl)
theorem o_notInL (c : Ec n e) (hn : n ≤ 63 := by decide) (a : α) (xs : List α) : dNotInX (e a) (eL e xs) = .ret (eB (!decide (a ∈ xs))) := by
  show dNotIn (e a) (.lst (xs.map e)) = _
  have h1 := D.pl_mono _ hn (c.pl a)
  have h2 := D.plL_mono _ hn (plL_map c xs)
  cases hd : e a <;> rw [hd] at h1 <;> first | (simp [D.pl] at h1; done) | (unfold dNotIn; simp only [h1, h2]; rw [← hd, memD_map c]; rfl)
theorem o_notInV (c : Ec n e) (hn : n ≤ 63 := by decide) (a : α) (xs : List α) : dNotInX (e a) (eV e xs) = .ret (eB (!decide (a ∈ xs))) := by
  show dNotIn (e a) (.tup (xs.map e)) = _
  have h1 := D.pl_mono _ hn (c.pl a)
  have h2 := D.plL_mono _ hn (plL_map c xs)
  cases hd : e a <;> rw [hd] at h1 <;> first | (simp [D.pl] at h1; done) | (unfold dNotIn; simp only [h1, h2]; rw [← hd, memD_map c]; rfl)
end
theorem o_lenL (xs : List α) : dLen [eL e xs] = .ret (eI xs.length) := by show M.ret (D.int (xs.map e).length) = _; rw [List.length_map]; rfl
theorem o_lenV (xs : List α) : dLen [eV e xs] = .ret (eI xs.length) := by show M.ret (D.int (xs.map e).length) = _; rw [List.length_map]; rfl
theorem cutD_map (xs : List α) (lo hi : Option Int) : cutD (xs.map e) lo hi = (cutD xs lo hi).map e := by
  unfold cutD; rw [List.length_map, List.map_take, List.map_drop]
theorem o_slL (xs : List α) (lo hi : Option Int) : dSl (eL e xs) lo hi = .ret (eL e (cutD xs lo hi)) := by show M.ret (D.lst (cutD (xs.map e) lo hi)) = _; rw [cutD_map]; rfl
theorem o_slV (xs : List α) (lo hi : Option Int) : dSl (eV e xs) lo hi = .ret (eV e (cutD xs lo hi)) := by show M.ret (D.tup (cutD (xs.map e) lo hi)) = _; rw [cutD_map]; rfl
theorem o_slLF (xs : List α) (lo hi : Option Int) : dSlL (eL e xs) lo hi = .ret (eL e (cutD xs lo hi)) := by show M.ret (D.lst (cutD (xs.map e) lo hi)) = _; rw [cutD_map]; rfl
def ixM (xs : List α) (i : Int) : M α := M.opt (atI xs i)
theorem atI_map (xs : List α) (i : Int) : atI (xs.map e) i = (atI xs i).map e := by
  unfold atI
  rw [List.length_map]
  cases ixN xs.length i with
  | none => rfl
  | some j => show (xs.map e)[j]? = _; rw [List.getElem?_map]; rfl
theorem r_ix (xs : List α) (i : Int) : Ev e (dIx (eL e xs) (eI i)) (ixM xs i) := by
  show Ev e (M.opt (atI (xs.map e) i)) (M.opt (atI xs i))
  rw [atI_map]
  cases atI xs i with
  | none => exact Rf.fail
  | some a => exact Rf.ret rfl
theorem r_ixV (xs : List α) (i : Int) : Ev e (dIx (eV e xs) (eI i)) (ixM xs i) := r_ix xs i
def catM (xs ys : List α) : M (List α) := if xs.length + ys.length ≤ sizeLine then .ret (xs ++ ys) else .fail
theorem r_cat (xs ys : List α) : Ev (eL e) (dAdd (eL e xs) (eL e ys)) (catM xs ys) := by
  show Ev (eL e) (if (xs.map e).length + (ys.map e).length ≤ sizeLine then .ret (.lst (xs.map e ++ ys.map e)) else .fail) _
  rw [List.length_map, List.length_map, ← List.map_append]
  unfold catM
  split
  · exact Rf.ret rfl
  · exact Rf.fail
theorem r_catV (xs ys : List α) : Ev (eV e) (dAdd (eV e xs) (eV e ys)) (catM xs ys) := by
  show Ev (eV e) (if (xs.map e).length + (ys.map e).length ≤ sizeLine then .ret (.tup (xs.map e ++ ys.map e)) else .fail) _
  rw [List.length_map, List.length_map, ← List.map_append]
  unfold catM
  split
  · exact Rf.ret rfl
  · exact Rf.fail
end
end DL

set_option Elab.async false
set_option linter.all false
set_option maxRecDepth 100000
/-! DL19: statements of mirrors by plain functions. -/
namespace DL
open PySem PySem.Spec L2
open PyProof.Rows hiding St

/-- a def's result: what it returns; None at its end -/
def RFn {ρ : Type} (eρ : ρ → D) : ρ → Fl × DEnv → Prop := fun r p => p.1 = .rt (eρ r) ∨ (p.1 = .nx ∧ eρ r = .non)
/-- .. and it does not go on -/
def RR {α : Type} (R : α → Fl × DEnv → Prop) : α → Fl × DEnv → Prop := fun a p => p.1 ≠ .nx ∧ R a p
section
variable {α β γ δ σ ρ : Type} {R : β → Fl × DEnv → Prop} {e : α → D} {eρ : ρ → D} {env env' : DEnv} {me : DE} {rest m a b : DS} {c : DT} {i j : Nat} {d d' : D} {E : σ → DEnv} {ws : List Nat}
theorem rf_fn {N : Nat} {bs : List Bool} {mb : DS} {ds : List D} {t : M ρ} (h : Rf (RFn eρ) (mb (envOf N bs ds)) t) : Ev eρ (fnM N bs mb ds) t := .of fun P q => by
  unfold fnM
  refine M.wp_bind.mpr (h.run _ (M.wp_mono q fun r q p hp => ?_))
  obtain ⟨fl, en⟩ := p
  rcases hp with hp | ⟨h1, h2⟩
  · have hp : fl = .rt (eρ r) := hp
    subst hp; exact q _ rfl
  · have h1 : fl = .nx := h1
    subst h1
    exact q _ h2.symm
theorem s_setP {t : M β} (h : me env = .ret d) (k : Rf R (rest (env.set i (some (.val d)))) t) : Rf R (mSeq (mSetV i me) rest env) t := by
  unfold mSeq mSetV; rw [h]; exact k
theorem s_setE {t1 : M α} {t : α → M β} (h : Ev e (me env) t1) (k : ∀ x, Rf R (rest (env.set i (some (.val (e x))))) (t x)) : Rf R (mSeq (mSetV i me) rest env) (t1 >>= t) := by
  have q : mSeq (mSetV i me) rest env = (me env >>= fun d => rest (env.set i (some (.val d)))) := by
    show ((me env).bind fun d => M.ret (Fl.nx, env.set i (some (.val d)))).bind _ = _
    rw [M.bind_assoc']; rfl
  rw [q]; exact x_bind h k
theorem s_setOP {t : M β} (h : me env = .ret d) (k : Rf R (rest (env.set i (some (.own d)))) t) : Rf R (mSeq (mSetO i me) rest env) t := by
  unfold mSeq mSetO; rw [h]; exact k
theorem s_setOE {t1 : M α} {t : α → M β} (h : Ev e (me env) t1) (k : ∀ x, Rf R (rest (env.set i (some (.own (e x))))) (t x)) : Rf R (mSeq (mSetO i me) rest env) (t1 >>= t) := by
  have q : mSeq (mSetO i me) rest env = (me env >>= fun d => rest (env.set i (some (.own d)))) := by
    show ((me env).bind fun d => M.ret (Fl.nx, env.set i (some (.own d)))).bind _ = _
    rw [M.bind_assoc']; rfl
  rw [q]; exact x_bind h k
theorem s_asgP {gg : DG} {t : M β} (h : me env = .ret d) (hg : gg d env = .ret env') (k : Rf R (rest env') t) : Rf R (mSeq (mAsg gg me) rest env) t := by
  unfold mSeq mAsg; rw [h]
  show Rf R ((gg d env >>= _) >>= _) t
  rw [hg]; exact k
theorem s_asgE {gg : DG} {E' : α → DEnv} {t1 : M α} {t : α → M β} (h : Ev e (me env) t1) (hg : ∀ x, gg (e x) env = .ret (E' x)) (k : ∀ x, Rf R (rest (E' x)) (t x)) : Rf R (mSeq (mAsg gg me) rest env) (t1 >>= t) := by
  have q : mSeq (mAsg gg me) rest env = (me env >>= fun d => gg d env >>= fun env' => rest env') := by
    show ((me env).bind fun d => (gg d env).bind fun env' => M.ret (Fl.nx, env')).bind _ = _
    rw [M.bind_assoc']
    congr 1; funext d
    rw [M.bind_assoc']; rfl
  rw [q]
  refine x_bind h fun x => ?_
  rw [hg]; exact k x
theorem s_parP {ms : DA} {t : M β} (h : ms env = .ret [d, d']) (k : Rf R (rest ((env.set i (some (.val d))).set j (some (.val d')))) t) : Rf R (mSeq (mPar i j ms) rest env) t := by
  unfold mSeq mPar; rw [h]; exact k
def parK (i j : Nat) (rest : DS) (env : DEnv) : List D → M (Fl × DEnv) := fun ds => match ds with
  | [d, d'] => rest ((env.set i (some (.val d))).set j (some (.val d')))
  | _ => .fail
theorem s_parK {ms : DA} {t : M β} (h : Rf R (ms env >>= parK i j rest env) t) : Rf R (mSeq (mPar i j ms) rest env) t := by
  have q : mSeq (mPar i j ms) rest env = (ms env >>= parK i j rest env) := by
    show ((ms env).bind fun ds => _).bind _ = (ms env).bind _
    rw [M.bind_assoc']
    congr 1; funext ds
    match ds with
    | [] => rfl
    | [_] => rfl
    | [_, _] => rfl
    | _ :: _ :: _ :: _ => rfl
  rw [q]; exact h
theorem s_retP {r : ρ} {x : β} (hR : ∀ en, R x (.rt (eρ r), en)) (h : me env = .ret (eρ r)) : Rf R (mRet me env) (.ret x) := by
  unfold mRet; rw [h]; exact Rf.ret (hR env)
theorem s_retE {t : M ρ} {f : ρ → β} (hR : ∀ r en, R (f r) (.rt (eρ r), en)) (h : Ev eρ (me env) t) : Rf R (mRet me env) (t >>= fun r => .ret (f r)) := x_bind h fun r => Rf.ret (hR r env)
theorem s_retF {t : M ρ} {R : ρ → Fl × DEnv → Prop} (hR : ∀ r en, R r (.rt (eρ r), en)) (h : Ev eρ (me env) t) : Rf R (mRet me env) t := .of fun P q => M.wp_bind.mpr (h.run _ (M.wp_mono q fun r q d hd => by
  have hd : d = eρ r := hd
  subst hd; exact q _ (hR r env)))
theorem s_pass {r : ρ} (h : eρ r = .non) : Rf (RFn eρ) (mPass env) (.ret r) := Rf.ret (.inr ⟨rfl, h⟩)
theorem s_if {tc : M Bool} {ta tb : M β} (ht : EvT (c env) tc) (ha : Rf R (a env) ta) (hb : Rf R (b env) tb) : Rf R (mIf c a b env) (tc >>= fun k => if k then ta else tb) := x_test ht fun k => by
  cases k
  · exact hb
  · exact ha
theorem s_ifP {k : Bool} {ta tb : M β} (ht : c env = .ret k) (ha : Rf R (a env) ta) (hb : Rf R (b env) tb) : Rf R (mIf c a b env) (if k then ta else tb) := x_testP ht (by
  cases k
  · exact hb
  · exact ha)
theorem seq_if : mSeq (mIf c a b) rest env = (c env >>= fun k => if k then mSeq a rest env else mSeq b rest env) := by
  show ((c env).bind fun k => if k then a env else b env).bind _ = _
  rw [M.bind_assoc']
  congr 1; funext k
  cases k <;> rfl
theorem seq_ret' {t : M β} (h : Rf (RR R) (a env) t) : Rf R (mSeq a rest env) t := .of fun P q => M.wp_bind.mpr (h.run _ (M.wp_mono q fun r q p hp => by
  obtain ⟨fl, en⟩ := p
  obtain ⟨h1, h2⟩ := hp
  cases fl with
  | nx => exact absurd rfl h1
  | _ => exact q _ h2))
/-- if the test is so, it returns -/
theorem s_iff {tc : M Bool} {ta tb : M β} (ht : EvT (c env) tc) (ha : Rf (RR R) (a env) ta) (hb : Rf R (mSeq b rest env) tb) : Rf R (mSeq (mIf c a b) rest env) (tc >>= fun k => if k then ta else tb) := by
  rw [seq_if]
  exact x_test ht fun k => by
    cases k
    · exact hb
    · exact seq_ret' ha
theorem s_iffP {k : Bool} {ta tb : M β} (ht : c env = .ret k) (ha : Rf (RR R) (a env) ta) (hb : Rf R (mSeq b rest env) tb) : Rf R (mSeq (mIf c a b) rest env) (if k then ta else tb) := by
  rw [seq_if]
  exact x_testP ht (by
    cases k
    · exact hb
    · exact seq_ret' ha)
/-- a statement that goes on, its state told -/
theorem s_next {tl : M σ} {t : σ → M β} (h : Rf (RN E) (a env) tl) (k : ∀ s, Rf R (rest (E s)) (t s)) : Rf R (mSeq a rest env) (tl >>= t) := h.bind fun s p hp => by
  have hp : p = (.nx, E s) := hp
  subst hp; exact k s
def contR {σ ρ β : Type} (t : σ → M β) (f : ρ → β) : Fw σ ρ → M β
  | .go s => t s
  | .brk _ => .fail
  | .back r => .ret (f r)
/-- .. or returns -/
theorem s_nextR {tl : M (Fw σ ρ)} {t : σ → M β} {f : ρ → β} (hR : ∀ r en, R (f r) (.rt (eρ r), en)) (h : Rf (RLp E eρ) (a env) tl) (k : ∀ s, Rf R (rest (E s)) (t s)) :
    Rf R (mSeq a rest env) (tl >>= contR t f) := h.bind fun o p hp => by
  cases o with
  | go s =>
    have hp : p = (.nx, E s) := hp
    subst hp; exact k s
  | brk s => exact Rf.fail
  | back r =>
    obtain ⟨fl, en⟩ := p
    have hp : fl = .rt (eρ r) := hp
    subst hp; exact Rf.ret (hR r en)
theorem l_for {mi : DI} {gg : DG} {mb : DS} {xs : List α} {R' : γ → Fl × DEnv → Prop} {tl : M γ} (hi : mi env = .ret (xs.map e)) (h : Rf R' (mForL gg mb (xs.map e) env) tl) : Rf R' (mFor mi gg mb env) tl := by
  unfold mFor; rw [hi]; exact h
theorem l_forE {mi : DI} {gg : DG} {mb : DS} {R' : γ → Fl × DEnv → Prop} {tx : M (List α)} {tl : List α → M γ} (hi : Rf (fun xs ds => ds = xs.map e) (mi env) tx) (h : ∀ xs, Rf R' (mForL gg mb (xs.map e) env) (tl xs)) : Rf R' (mFor mi gg mb env) (tx >>= tl) := hi.bind fun xs ds hd => by
  subst hd; exact h xs
/-- ends of blocks -/
theorem e_goN {s : σ} (h : wipeE env ws = E s) : Rf (RN E) (mForget ws mPass env) (.ret s) := by
  show Rf (RN E) (.ret (Fl.nx, wipeE env ws)) _; rw [h]; exact Rf.ret rfl
theorem e_goX {s : σ} (h : wipeE env ws = E s) : Rf (RX E) (mForget ws mPass env) (.ret s) := by
  show Rf (RX E) (.ret (Fl.nx, wipeE env ws)) _; rw [h]; exact Rf.ret (.inl rfl)
theorem e_goT {s : σ} (h : wipeE env ws = E s) : Rf (RTn E eρ) (mForget ws mPass env) (.ret (.go s)) := by
  show Rf (RTn E eρ) (.ret (Fl.nx, wipeE env ws)) _; rw [h]; exact Rf.ret (.inl rfl)
theorem e_goL {s : σ} (h : wipeE env ws = E s) : Rf (RLp E eρ) (mForget ws mPass env) (.ret (.go s)) := by
  show Rf (RLp E eρ) (.ret (Fl.nx, wipeE env ws)) _; rw [h]; exact Rf.ret rfl
theorem e_cntX {s : σ} (h : wipeE env ws = E s) : Rf (RX E) (mForget ws mCnt env) (.ret s) := by
  show Rf (RX E) (.ret (Fl.ct, wipeE env ws)) _; rw [h]; exact Rf.ret (.inr rfl)
theorem e_cntT {s : σ} (h : wipeE env ws = E s) : Rf (RTn E eρ) (mForget ws mCnt env) (.ret (.go s)) := by
  show Rf (RTn E eρ) (.ret (Fl.ct, wipeE env ws)) _; rw [h]; exact Rf.ret (.inr rfl)
theorem s_forget {t : M β} (h : Rf R (m (wipeE env ws)) t) : Rf R (mForget ws m env) t := h
theorem s_frz {t : M β} (h : mFrz i m env = m env') (k : Rf R (m env') t) : Rf R (mFrz i m env) t := by rw [h]; exact k
def appM (xs : List α) (x : α) : M (List α) := if xs.length < sizeLine then .ret (xs ++ [x]) else .fail
theorem s_appP {xs : List α} {x : α} {t : List α → M β} (h : me env = .ret (e x)) (hx : env[i]? = some (some (.own (eL e xs)))) (k : ∀ ys, Rf R (rest (env.set i (some (.own (eL e ys))))) (t ys)) : Rf R (mSeq (mAppend i me) rest env) (appM xs x >>= t) := by
  unfold mSeq mAppend
  rw [h]
  show Rf R ((match env[i]? with
    | some (some (.own (.lst xs))) => if xs.length < sizeLine then M.ret (Fl.nx, env.set i (some (.own (.lst (xs ++ [e x]))))) else .fail
    | _ => .fail) >>= _) _
  rw [hx]
  show Rf R ((if (xs.map e).length < sizeLine then M.ret (Fl.nx, env.set i (some (.own (.lst (xs.map e ++ [e x]))))) else .fail) >>= _) _
  rw [List.length_map]
  unfold appM
  split
  · have q := k (xs ++ [x])
    unfold eL at q
    rw [List.map_append] at q
    exact q
  · exact Rf.fail
theorem s_appE {xs : List α} {t1 : M α} {t : List α → M β} (h : Ev e (me env) t1) (hx : env[i]? = some (some (.own (eL e xs)))) (k : ∀ ys, Rf R (rest (env.set i (some (.own (eL e ys))))) (t ys)) : Rf R (mSeq (mAppend i me) rest env) (t1 >>= fun x => appM xs x >>= t) := by
  have q : mSeq (mAppend i me) rest env = (me env >>= fun d => mSeq (mAppend i (mC d)) rest env) := by
    show ((me env).bind fun d => _).bind _ = _
    rw [M.bind_assoc']; rfl
  rw [q]
  exact x_bind h fun x => s_appP (e := e) rfl hx k
theorem s_extP {xs zs : List α} {t : List α → M β} (h : me env = .ret (eL e zs)) (hx : env[i]? = some (some (.own (eL e xs)))) (k : ∀ ys, Rf R (rest (env.set i (some (.own (eL e ys))))) (t ys)) : Rf R (mSeq (mExtend i me) rest env) (catM xs zs >>= t) := by
  unfold mSeq mExtend
  rw [h]
  show Rf R ((match env[i]?, eL e zs with
    | some (some (.own (.lst xs))), .lst ys => if xs.length + ys.length ≤ sizeLine then M.ret (Fl.nx, env.set i (some (.own (.lst (xs ++ ys))))) else .fail
    | _, _ => .fail) >>= _) _
  rw [hx]
  show Rf R ((if (xs.map e).length + (zs.map e).length ≤ sizeLine then M.ret (Fl.nx, env.set i (some (.own (.lst (xs.map e ++ zs.map e))))) else .fail) >>= _) _
  rw [List.length_map, List.length_map]
  unfold catM
  split
  · have q := k (xs ++ zs)
    unfold eL at q
    rw [List.map_append] at q
    exact q
  · exact Rf.fail
theorem s_extE {xs : List α} {t1 : M (List α)} {t : List α → M β} (h : Ev (eL e) (me env) t1) (hx : env[i]? = some (some (.own (eL e xs)))) (k : ∀ ys, Rf R (rest (env.set i (some (.own (eL e ys))))) (t ys)) : Rf R (mSeq (mExtend i me) rest env) (t1 >>= fun zs => catM xs zs >>= t) := by
  have q : mSeq (mExtend i me) rest env = (me env >>= fun d => mSeq (mExtend i (mC d)) rest env) := by
    show ((me env).bind fun d => _).bind _ = _
    rw [M.bind_assoc']; rfl
  rw [q]
  exact x_bind h fun zs => s_extP (e := e) rfl hx k
end
end DL

set_option Elab.async false
set_option linter.all false
set_option maxRecDepth 100000
/-! DL20: further expressions of mirrors by plain functions. -/
namespace DL
open PySem PySem.Spec L2
open PyProof.Rows hiding St
section
variable {α β γ δ : Type} {R : β → δ → Prop} {e : α → D} {f : β → D} {env : DEnv} {ma mb mc : DE} {op : D → D → M D} {x y z : D}
theorem ev_id (m : M D) : Ev eD m m := .of fun P q => M.wp_mono q fun a h => h a rfl
section
variable {R : γ → D → Prop} {e1 : α → D} {e2 : β → D}
theorem b_PP {t : M γ} (a : ma env = .ret x) (b : mb env = .ret y) (h : Rf R (op x y) t) : Rf R (mBin op ma mb env) t := by
  unfold mBin; rw [a]; show Rf R (mb env >>= _) t; rw [b]; exact h
theorem b_EP {t1 : M α} {k : α → M γ} (a : Ev e1 (ma env) t1) (b : mb env = .ret y) (h : ∀ v, Rf R (op (e1 v) y) (k v)) : Rf R (mBin op ma mb env) (t1 >>= k) := x_bind a fun v => x_bindP b (h v)
theorem b_PE {t1 : M β} {k : β → M γ} (a : ma env = .ret x) (b : Ev e2 (mb env) t1) (h : ∀ v, Rf R (op x (e2 v)) (k v)) : Rf R (mBin op ma mb env) (t1 >>= k) := x_bindP a (x_bind b h)
theorem b_EE {t1 : M α} {t2 : M β} {k : α → β → M γ} (a : Ev e1 (ma env) t1) (b : Ev e2 (mb env) t2) (h : ∀ v w, Rf R (op (e1 v) (e2 w)) (k v w)) : Rf R (mBin op ma mb env) (t1 >>= fun v => t2 >>= fun w => k v w) := x_bind a fun v => x_bind b (h v)
end
theorem t_E {t : M Bool} (h : Ev eB (mBin op ma mb env) t) : EvT (mBinT op ma mb env) t := r_asB h
theorem a_nil {ρ δ : Type} {R : ρ → δ → Prop} {g : List D → M δ} {t : M ρ} (h : Rf R (g []) t) : Rf R (aNil env >>= g) t := h
theorem c_call {ρ : Type} {R : ρ → D → Prop} {op : List D → M D} {ms : DA} {t : M ρ} (h : Rf R (ms env >>= op) t) : Rf R (mCall op ms env) t := h
theorem p_len {n : Nat} (h : n ≤ 1000 := by decide) : n ≤ sizeLine := by rw [sizeLine_eq]; omega
theorem p_tup {ms : DA} {ds : List D} (a : ms env = .ret ds) (h : ds.length ≤ sizeLine) : mTup ms env = .ret (.tup ds) := by
  unfold mTup; rw [a]; show (if ds.length ≤ sizeLine then _ else _) = _; rw [if_pos h]
theorem p_lst {ms : DA} {ds : List D} (a : ms env = .ret ds) (h : ds.length ≤ sizeLine) : mLst ms env = .ret (.lst ds) := by
  unfold mLst; rw [a]; show (if ds.length ≤ sizeLine then _ else _) = _; rw [if_pos h]
theorem r_tup {ρ : Type} {R : ρ → D → Prop} {ms : DA} {t : M ρ} (h : Rf R (ms env >>= fun xs => if xs.length ≤ sizeLine then .ret (.tup xs) else .fail) t) : Rf R (mTup ms env) t := h
theorem r_lst {ρ : Type} {R : ρ → D → Prop} {ms : DA} {t : M ρ} (h : Rf R (ms env >>= fun xs => if xs.length ≤ sizeLine then .ret (.lst xs) else .fail) t) : Rf R (mLst ms env) t := h
theorem k_disp {ρ : Type} {R : ρ → D → Prop} {ds : List D} {d : D} {r : ρ} (h : ds.length ≤ sizeLine) (hr : R r d) : Rf R (if ds.length ≤ sizeLine then .ret d else .fail) (.ret r) := by rw [if_pos h]; exact Rf.ret hr
theorem p_ifE {c : DT} {k : Bool} (a : c env = .ret k) {va vb : α} (ha : ma env = .ret (e va)) (hb : mb env = .ret (e vb)) : mIfE c ma mb env = .ret (e (if k then va else vb)) := by
  unfold mIfE; rw [a]; cases k
  · exact hb
  · exact ha
theorem r_ifE {c : DT} {tc : M Bool} {ta tb : M α} (a : EvT (c env) tc) (ha : Ev e (ma env) ta) (hb : Ev e (mb env) tb) : Ev e (mIfE c ma mb env) (tc >>= fun k => if k then ta else tb) := x_test a fun k => by
  cases k
  · exact hb
  · exact ha
theorem r_ifEP {c : DT} {k : Bool} {ta tb : M α} (a : c env = .ret k) (ha : Ev e (ma env) ta) (hb : Ev e (mb env) tb) : Ev e (mIfE c ma mb env) (if k then ta else tb) := x_testP a (by
  cases k
  · exact hb
  · exact ha)
/-- and, or, not of truth values -/
theorem p_andV {a b : Bool} (ha : ma env = .ret (eB a)) (hb : mb env = .ret (eB b)) : mAndV ma mb env = .ret (eB (a && b)) := by
  unfold mAndV; rw [ha]; cases a
  · rfl
  · exact hb
theorem p_orV {a b : Bool} (ha : ma env = .ret (eB a)) (hb : mb env = .ret (eB b)) : mOrV ma mb env = .ret (eB (a || b)) := by
  unfold mOrV; rw [ha]; cases a
  · exact hb
  · rfl
theorem p_notV {d : D} {k : Bool} (ha : ma env = .ret d) (h : truM d = .ret k) : mNotV ma env = .ret (eB !k) := by
  unfold mNotV; rw [ha]; show (truM d >>= _) = _; rw [h]; rfl
theorem r_andV {a b : M Bool} (ha : Ev eB (ma env) a) (hb : Ev eB (mb env) b) : Ev eB (mAndV ma mb env) (a >>= fun k => if k then b else .ret false) := x_bind ha fun k => by
  cases k
  · exact Rf.ret rfl
  · exact hb
theorem r_orV {a b : M Bool} (ha : Ev eB (ma env) a) (hb : Ev eB (mb env) b) : Ev eB (mOrV ma mb env) (a >>= fun k => if k then .ret true else b) := x_bind ha fun k => by
  cases k
  · exact hb
  · exact Rf.ret rfl
theorem r_truE {t : M α} {f : α → Bool} (ha : Ev e (ma env) t) (h : ∀ a, truM (e a) = .ret (f a)) : EvT (mTru ma env) (t >>= fun a => .ret (f a)) := x_bind ha fun a => by rw [h]; exact Rf.ret rfl
theorem t_L (xs : List α) : truM (eL e xs) = .ret (!xs.isEmpty) := by cases xs <;> rfl
theorem t_V (xs : List α) : truM (eV e xs) = .ret (!xs.isEmpty) := by cases xs <;> rfl
theorem nnT1 (a : α) : eT1 e a ≠ .non := fun h => D.noConfusion (show D.tup _ = D.non from h)
theorem nnT2 (a : α × β) : eT2 e f a ≠ .non := fun h => D.noConfusion (show D.tup _ = D.non from h)
theorem nnL (a : List α) : eL e a ≠ .non := fun h => D.noConfusion (show D.lst _ = D.non from h)
theorem nnV (a : List α) : eV e a ≠ .non := fun h => D.noConfusion (show D.tup _ = D.non from h)
theorem nnI (a : Int) : eI a ≠ .non := fun h => D.noConfusion (show D.int _ = D.non from h)
theorem nnS (a : Str) : eS a ≠ .non := fun h => D.noConfusion (show D.str _ = D.non from h)
/-- None or not -/
theorem o_isO (nn : ∀ a, e a ≠ .non) (o : Option α) : dIs (eO e o) .non = .ret (eB o.isNone) := by
  cases o with
  | none => rfl
  | some a =>
    have := nn a
    show dIs (e a) .non = _
    cases h : e a <;> first | (exact absurd h this) | rfl
theorem o_isNotO (nn : ∀ a, e a ≠ .non) (o : Option α) : dIsNot (eO e o) .non = .ret (eB !o.isNone) := by
  cases o with
  | none => rfl
  | some a =>
    have := nn a
    show dIsNot (e a) .non = _
    cases h : e a <;> first | (exact absurd h this) | rfl
theorem r_isD (d : D) : Ev eB (dIs d .non) (.ret (match d with | .non => true | _ => false)) := by cases d <;> exact Rf.ret rfl
/-! what is walked -/
theorem i_L {m : DE} {xs : List α} (h : m env = .ret (eL e xs)) : iOver m env = .ret (xs.map e) := by unfold iOver; rw [h]; rfl
theorem i_V {m : DE} {xs : List α} (h : m env = .ret (eV e xs)) : iOver m env = .ret (xs.map e) := by unfold iOver; rw [h]; rfl
theorem i_LE {m : DE} {t : M (List α)} (h : Ev (eL e) (m env) t) : Rf (fun xs ds => ds = xs.map e) (iOver m env) t := .of fun P q => M.wp_bind.mpr (h.run _ (M.wp_mono q fun a q d r => by
  have r : d = eL e a := r
  subst r; exact q _ rfl))
theorem i_VE {m : DE} {t : M (List α)} (h : Ev (eV e) (m env) t) : Rf (fun xs ds => ds = xs.map e) (iOver m env) t := .of fun P q => M.wp_bind.mpr (h.run _ (M.wp_mono q fun a q d r => by
  have r : d = eV e a := r
  subst r; exact q _ rfl))
def enumT : Nat → List α → List (Int × α)
  | _, [] => []
  | i, x :: xs => ((i : Int), x) :: enumT (i + 1) xs
theorem enum_map : ∀ (i : Nat) (xs : List α), enumD i (xs.map e) = (enumT i xs).map (eT2 eI e)
  | _, [] => rfl
  | i, x :: xs => by rw [List.map_cons, enumD, enumT, List.map_cons, enum_map (i + 1) xs]; rfl
theorem i_enum {m : DE} {xs : List α} (h : m env = .ret (eL e xs)) : iEnumD m env = .ret ((enumT 0 xs).map (eT2 eI e)) := by
  unfold iEnumD; rw [h]; show M.ret (enumD 0 (xs.map e)) = _; rw [enum_map]
theorem i_enumE {m : DE} {t : M (List α)} (h : Ev (eL e) (m env) t) : Rf (fun xs ds => ds = xs.map (eT2 eI e)) (iEnumD m env) (t >>= fun xs => .ret (enumT 0 xs)) := x_bind h fun xs => by
  show Rf _ (.ret (enumD 0 (xs.map e))) _
  rw [enum_map]; exact Rf.ret rfl
def rgT (a b : Int) : List Int := (List.range (b - a).toNat).map fun i => a + (i : Nat)
def rgM (a b : Int) : M (List Int) := if rgOk a b then .ret (rgT a b) else .fail
theorem rg_map (a b : Int) : rgD a b = (rgT a b).map eI := by unfold rgD rgT; rw [List.map_map]; rfl
theorem i_rg1 {m : DE} {b : Int} (h : m env = .ret (eI b)) : Rf (fun xs ds => ds = xs.map eI) (iRg1 m env) (rgM 0 b) := by
  unfold iRg1; rw [h]
  show Rf _ (if rgOk 0 b then M.ret (rgD 0 b) else .fail) _
  unfold rgM
  split
  · exact Rf.ret (rg_map _ _)
  · exact Rf.fail
theorem i_rg1E {m : DE} {t : M Int} (h : Ev eI (m env) t) : Rf (fun xs ds => ds = xs.map eI) (iRg1 m env) (t >>= fun b => rgM 0 b) := x_bind h fun b => by
  show Rf _ (if rgOk 0 b then M.ret (rgD 0 b) else .fail) _
  unfold rgM
  split
  · exact Rf.ret (rg_map _ _)
  · exact Rf.fail
theorem i_rg2 {m m' : DE} {a b : Int} (h : m env = .ret (eI a)) (h' : m' env = .ret (eI b)) : Rf (fun xs ds => ds = xs.map eI) (iRg2 m m' env) (rgM a b) := by
  unfold iRg2; rw [h]; show Rf _ (m' env >>= _) _; rw [h']
  show Rf _ (if rgOk a b then M.ret (rgD a b) else .fail) _
  unfold rgM
  split
  · exact Rf.ret (rg_map _ _)
  · exact Rf.fail
/-! comprehensions -/
def lcM (c : α → M Bool) (f : α → M β) : List α → M (List β)
  | [] => .ret []
  | x :: xs => c x >>= fun k => if k then f x >>= fun y => lcM c f xs >>= fun ys => .ret (y :: ys) else lcM c f xs
theorem lcM_pure (c : α → Bool) (f : α → β) : ∀ xs : List α, lcM (fun x => .ret (c x)) (fun x => .ret (f x)) xs = .ret ((xs.filter c).map f)
  | [] => rfl
  | x :: xs => by
    show (if c x then (lcM _ _ xs >>= fun ys => M.ret (f x :: ys)) else lcM _ _ xs) = _
    rw [lcM_pure c f xs, List.filter_cons]
    cases c x <;> rfl
theorem rf_lcL {gg : DG} {mt : DT} {me : DE} {envw : DEnv} {E1 : α → DEnv} {c : α → M Bool} {g : α → M β} (hg : ∀ x, gg (e x) envw = .ret (E1 x)) (ht : ∀ x, EvT (mt (E1 x)) (c x)) (he : ∀ x, Ev f (me (E1 x)) (g x)) :
    ∀ (xs : List α) (acc : List D), Rf (fun (ys : List β) ds => ds = acc ++ ys.map f) (mLcL gg mt me envw (xs.map e) acc) (lcM c g xs)
  | [], acc => Rf.ret (by simp)
  | x :: xs, acc => by
    show Rf _ (gg (e x) envw >>= fun env1 => mt env1 >>= _) (c x >>= _)
    rw [hg]
    refine x_test (ht x) fun k => ?_
    cases k with
    | true =>
      refine x_bind (he x) fun y => ?_
      have ih := rf_lcL hg ht he xs (acc ++ [f y])
      refine .of fun P q => ?_
      exact ih.run P (M.wp_mono (M.wp_bind.mp q) fun ys q d hd => q d (by rw [hd]; simp))
    | false => exact rf_lcL hg ht he xs acc
theorem r_lcE {vs : List Nat} {mi : DI} {gg : DG} {mt : DT} {me : DE} {E1 : α → DEnv} {tx : M (List α)} {c : α → M Bool} {g : α → M β} (ok : vs.all (notOwn env) = true) (hi : Rf (fun xs ds => ds = xs.map e) (mi env) tx)
    (hg : ∀ x, gg (e x) (wipeE env vs) = .ret (E1 x)) (ht : ∀ x, EvT (mt (E1 x)) (c x)) (he : ∀ x, Ev f (me (E1 x)) (g x)) : Ev (eL f) (mLc vs mi gg mt me env) (tx >>= fun xs => lcM c g xs) := by
  unfold mLc
  rw [if_pos ok]
  refine hi.bind fun xs ds hd => ?_
  subst hd
  refine .of fun P q => ?_
  exact M.wp_bind.mpr ((rf_lcL (f := f) hg ht he xs []).run _ (M.wp_mono q fun ys q d hd => q _ (by rw [hd]; rfl)))
theorem ri_ret {m : M (List D)} {xs : List α} (h : m = .ret (xs.map e)) : Rf (fun xs ds => ds = xs.map e) m (.ret xs) := by rw [h]; exact Rf.ret rfl
theorem r_lc {vs : List Nat} {mi : DI} {gg : DG} {mt : DT} {me : DE} {E1 : α → DEnv} {xs : List α} {c : α → M Bool} {g : α → M β} (ok : vs.all (notOwn env) = true) (hi : mi env = .ret (xs.map e))
    (hg : ∀ x, gg (e x) (wipeE env vs) = .ret (E1 x)) (ht : ∀ x, EvT (mt (E1 x)) (c x)) (he : ∀ x, Ev f (me (E1 x)) (g x)) : Ev (eL f) (mLc vs mi gg mt me env) (lcM c g xs) := r_lcE ok (ri_ret hi) hg ht he
theorem p_lc {vs : List Nat} {mi : DI} {gg : DG} {mt : DT} {me : DE} {E1 : α → DEnv} {xs : List α} {c : α → Bool} {g : α → β} (ok : vs.all (notOwn env) = true) (hi : mi env = .ret (xs.map e))
    (hg : ∀ x, gg (e x) (wipeE env vs) = .ret (E1 x)) (ht : ∀ x, mt (E1 x) = .ret (c x)) (he : ∀ x, me (E1 x) = .ret (f (g x))) : mLc vs mi gg mt me env = .ret (eL f ((xs.filter c).map g)) := by
  have loop : ∀ (xs : List α) (acc : List D), mLcL gg mt me (wipeE env vs) (xs.map e) acc = .ret (acc ++ ((xs.filter c).map g).map f) := by
    intro xs
    induction xs with
    | nil => intro acc; show M.ret acc = _; simp
    | cons x xs ih =>
      intro acc
      show (gg (e x) (wipeE env vs) >>= fun env1 => mt env1 >>= _) = _
      rw [hg]
      show (mt (E1 x) >>= _) = _
      rw [ht, List.filter_cons]
      cases hc : c x with
      | true =>
        show (me (E1 x) >>= _) = _
        rw [he]
        show mLcL gg mt me (wipeE env vs) (xs.map e) (acc ++ [f (g x)]) = _
        rw [ih]; simp
      | false =>
        show mLcL gg mt me (wipeE env vs) (xs.map e) acc = _
        rw [ih]; simp
  unfold mLc
  rw [if_pos ok, hi]
  show (mLcL gg mt me (wipeE env vs) (xs.map e) [] >>= _) = _
  rw [loop]; rfl
end
end DL

set_option Elab.async false
set_option linter.all false
set_option maxRecDepth 100000
/-! DL21: further expressions of mirrors by plain functions: orders, places, numbers. -/
namespace DL
open PySem PySem.Spec L2
open PyProof.Rows hiding St
section
variable {α β γ δ : Type} {R : β → Fl × DEnv → Prop} {e : α → D} {f : β → D} {env : DEnv} {m ma mb mc : DE} {op op' : D → D → M D} {rest : DS} {ws : List Nat}
theorem s_skip {t : M β} (h : Rf R (rest env) t) : Rf R (mSeq mPass rest env) t := h
theorem s_skipF {t : M β} (h : Rf R (rest (wipeE env ws)) t) : Rf R (mSeq (mForget ws mPass) rest env) t := h
theorem ev_some {m : M D} {t : M α} (h : Ev e m t) : Ev (eO e) m (t >>= fun a => .ret (some a)) := .of fun P q => h.run P (M.wp_mono (M.wp_bind.mp q) fun a q => q)
theorem ev_toD {m : M D} {t : M α} (h : Ev e m t) : Ev eD m (t >>= fun a => .ret (e a)) := .of fun P q => h.run P (M.wp_mono (M.wp_bind.mp q) fun a q => q)
theorem p_neg {a : Int} (h : m env = .ret (eI a)) : mNeg m env = .ret (eI (-a)) := by unfold mNeg; rw [h]; rfl
theorem r_neg {t : M Int} (h : Ev eI (m env) t) : Ev eI (mNeg m env) (t >>= fun a => .ret (-a)) := x_bind h fun a => Rf.ret rfl
theorem r_notV {t : M α} {k : α → Bool} (h : Ev e (m env) t) (hk : ∀ a, truM (e a) = .ret (k a)) : Ev eB (mNotV m env) (t >>= fun a => .ret (!k a)) := x_bind h fun a => by rw [hk]; exact Rf.ret rfl
theorem p_TE {k : Bool} (h : m env = .ret (eB k)) : mTE m env = .ret k := by unfold mTE; rw [h]; rfl
theorem t_TE {t : M Bool} (h : Ev eB (m env) t) : EvT (mTE m env) t := r_asB h
theorem p_chain {x y z : D} {a b : Bool} (hx : ma env = .ret x) (hy : mb env = .ret y) (hz : mc env = .ret z) (h1 : op x y = .ret (eB a)) (h2 : op' y z = .ret (eB b)) : mChain op op' ma mb mc env = .ret (eB (a && b)) := by
  unfold mChain
  rw [hx]; show (mb env >>= _) = _; rw [hy]; show ((op x y >>= asB) >>= _) = _; rw [h1]
  cases a
  · rfl
  · show (mc env >>= _) = _; rw [hz]; exact h2
def asBM (m : M D) : M Bool := m >>= asB
def asIM (m : M D) : M Int := m >>= asI
theorem ev_asB (m : M D) : Ev eB m (asBM m) := .of fun P q => M.wp_mono (M.wp_bind.mp q) fun d q => by
  cases d <;> first | exact q.elim | exact q _ rfl
theorem ev_asI (m : M D) : Ev eI m (asIM m) := .of fun P q => M.wp_mono (M.wp_bind.mp q) fun d q => by
  cases d <;> first | exact q.elim | exact q _ rfl
def isNonD : D → Bool
  | .non => true
  | _ => false
theorem o_isD (d : D) : dIs d .non = .ret (eB (isNonD d)) := by cases d <;> rfl
theorem o_isNotD (d : D) : dIsNot d .non = .ret (eB !isNonD d) := by cases d <;> rfl
/-! slices -/
theorem po_n : oNone env = .ret none := rfl
theorem po_s {i : Int} (h : m env = .ret (eI i)) : oSome m env = .ret (some i) := by unfold oSome; rw [h]; rfl
theorem p_sl {lo hi : DO} {l h : Option Int} {x y : D} {g : D → Option Int → Option Int → M D} (a : m env = .ret x) (b : lo env = .ret l) (c : hi env = .ret h) (k : g x l h = .ret y) : mSl g m lo hi env = .ret y := by
  unfold mSl; rw [a]; show (lo env >>= _) = _; rw [b]; show (hi env >>= _) = _; rw [c]; exact k
theorem r_sl {lo hi : DO} {l h : Option Int} {g : D → Option Int → Option Int → M D} {t : M α} {w : α → β} (a : Ev e (m env) t) (b : lo env = .ret l) (c : hi env = .ret h) (k : ∀ x, g (e x) l h = .ret (f (w x))) : Ev f (mSl g m lo hi env) (t >>= fun x => .ret (w x)) := x_bind a fun x => by
  rw [b]; show Rf _ (hi env >>= _) _; rw [c]; show Rf _ (g (e x) l h) _; rw [k]; exact Rf.ret rfl
theorem r_slD {lo hi : DO} {l h : Option Int} {g : D → Option Int → Option Int → M D} {x : D} (a : m env = .ret x) (b : lo env = .ret l) (c : hi env = .ret h) : Ev eD (mSl g m lo hi env) (g x l h) := by
  unfold mSl; rw [a]; show Ev eD (lo env >>= _) _; rw [b]; show Ev eD (hi env >>= _) _; rw [c]; exact ev_id _
theorem r_slDE {lo hi : DO} {l h : Option Int} {g : D → Option Int → Option Int → M D} {t : M D} (a : Ev eD (m env) t) (b : lo env = .ret l) (c : hi env = .ret h) : Ev eD (mSl g m lo hi env) (t >>= fun x => g x l h) := x_bind a fun x => by
  rw [b]; show Rf _ (hi env >>= _) _; rw [c]; exact ev_id _
theorem p_rev {xs : List α} (a : m env = .ret (eL e xs)) : mRev m env = .ret (eL e xs.reverse) := by
  unfold mRev; rw [a]; show M.ret (D.lst (xs.map e).reverse) = _; rw [← List.map_reverse]; rfl
theorem r_rev {t : M (List α)} (a : Ev (eL e) (m env) t) : Ev (eL e) (mRev m env) (t >>= fun xs => .ret xs.reverse) := x_bind a fun xs => by
  show Rf _ (M.ret (D.lst (xs.map e).reverse)) _; rw [← List.map_reverse]; exact Rf.ret rfl
/-! the place of an item -/
def idxT [DecidableEq α] : List α → α → Option Nat
  | [], _ => none
  | x :: xs, y => if x = y then some 0 else (idxT xs y).map (· + 1)
def indexM [DecidableEq α] (xs : List α) (y : α) : M Int := match idxT xs y with
  | some j => .ret (j : Nat)
  | none => .fail
section
variable [DecidableEq α] {n : Nat}
theorem idx_map (c : Ec n e) (y : α) : ∀ xs : List α, idxD (xs.map e) (e y) = idxT xs y
  | [] => rfl
  | x :: xs => by
    have ih := idx_map c y xs
    unfold idxD at ih ⊢
    rw [List.map_cons, List.findIdx?_cons, c.beq, ih, idxT]
    by_cases h : x = y <;> simp [h]
theorem idx_rf (c : Ec n e) (hn : n ≤ 63) (xs : List α) (y : α) : Ev eI (dIndex (xs.map e) [e y]) (indexM xs y) := by
  show Ev eI (if D.pl 63 (e y) && D.plL 63 (xs.map e) then (match idxD (xs.map e) (e y) with
    | some j => M.ret (D.int (j : Nat))
    | none => .fail) else .fail) _
  unfold indexM
  rw [D.pl_mono _ hn (c.pl y), D.plL_mono _ hn (plL_map c xs), idx_map c]
  show Ev eI (match idxT xs y with | some j => M.ret (D.int (j : Nat)) | none => .fail) _
  cases idxT xs y with
  | none => exact Rf.fail
  | some j => exact Rf.ret rfl
theorem r_index (c : Ec n e) (hn : n ≤ 63) {xs : List α} {y : α} (a : ma env = .ret (eL e xs)) (b : mb env = .ret (e y)) : Ev eI (mMeth dIndex ma (aCons mb aNil) env) (indexM xs y) := by
  unfold mMeth; rw [a]; show Ev eI (aCons mb aNil env >>= fun ds => dIndex (xs.map e) ds) _
  exact a_consP b (a_nil (idx_rf c hn xs y))
theorem r_indexE (c : Ec n e) (hn : n ≤ 63) {xs : List α} {t : M α} (a : ma env = .ret (eL e xs)) (b : Ev e (mb env) t) : Ev eI (mMeth dIndex ma (aCons mb aNil) env) (t >>= fun y => indexM xs y) := by
  unfold mMeth; rw [a]; show Ev eI (aCons mb aNil env >>= fun ds => dIndex (xs.map e) ds) _
  exact a_cons b fun y => a_nil (idx_rf c hn xs y)
end
theorem p_lcA {vs : List Nat} {mi : DI} {gg : DG} {me : DE} {E1 : α → DEnv} {xs : List α} {g : α → β} (ok : vs.all (notOwn env) = true) (hi : mi env = .ret (xs.map e))
    (hg : ∀ x, gg (e x) (wipeE env vs) = .ret (E1 x)) (he : ∀ x, me (E1 x) = .ret (f (g x))) : mLc vs mi gg mYes me env = .ret (eL f (xs.map g)) := by
  rw [p_lc (c := fun _ => true) ok hi hg (fun _ => rfl) he]
  congr 2
  rw [List.filter_eq_self.mpr fun _ _ => rfl]
theorem r_lrg1 {b : Int} (h : m env = .ret (eI b)) : Ev (eL eI) (mRgL1 .lst m env) (rgM 0 b) := by
  unfold mRgL1; rw [h]
  show Ev (eL eI) (if rgOk 0 b then M.ret (.lst (rgD 0 b)) else .fail) _
  unfold rgM
  split
  · rw [rg_map]; exact Rf.ret rfl
  · exact Rf.fail
theorem r_lrg1E {t : M Int} (h : Ev eI (m env) t) : Ev (eL eI) (mRgL1 .lst m env) (t >>= fun b => rgM 0 b) := x_bind h fun b => by
  show Ev (eL eI) (if rgOk 0 b then M.ret (.lst (rgD 0 b)) else .fail) _
  unfold rgM
  split
  · rw [rg_map]; exact Rf.ret rfl
  · exact Rf.fail
/-! numbers -/
def mulM (a b : Int) : M Int := if small64 a || small64 b then .ret (a * b) else .fail
def fdivM (a b : Int) : M Int := if decide (0 < b) && decide (b < 2 ^ 30) then .ret (a / b) else .fail
def modM (a b : Int) : M Int := if decide (0 < b) then .ret (a % b) else .fail
def powM (a b : Int) : M Int := if decide (0 ≤ b) && (decide (b ≤ 1000000) && decide (a.natAbs < 2 ^ 64)) then .ret (a ^ b.toNat) else .fail
def shlM (a b : Int) : M Int := if decide (0 ≤ b) && (decide (b ≤ 1000000) && decide (a.natAbs < 2 ^ 64)) then .ret (a * 2 ^ b.toNat) else .fail
theorem rf_ite {c : Bool} {d : Int} : Ev eI (if c then M.ret (D.int d) else .fail) (if c then .ret d else .fail) := by
  cases c
  · exact Rf.fail
  · exact Rf.ret rfl
theorem r_mul (a b : Int) : Ev eI (dMul (eI a) (eI b)) (mulM a b) := rf_ite
theorem r_fdiv (a b : Int) : Ev eI (dFdiv (eI a) (eI b)) (fdivM a b) := rf_ite
theorem r_mod (a b : Int) : Ev eI (dMod (eI a) (eI b)) (modM a b) := rf_ite
theorem r_pow (a b : Int) : Ev eI (dPow (eI a) (eI b)) (powM a b) := rf_ite
theorem r_shl (a b : Int) : Ev eI (dShl (eI a) (eI b)) (shlM a b) := rf_ite
theorem bls_map : ∀ xs : List Bool, blsOf (xs.map eB) = some xs
  | [] => rfl
  | x :: xs => by rw [List.map_cons]; show (blsOf (xs.map eB)).map (x :: ·) = _; rw [bls_map xs]; rfl
theorem ints_map : ∀ xs : List Int, intsOf (xs.map eI) = some xs
  | [] => rfl
  | x :: xs => by rw [List.map_cons]; show (intsOf (xs.map eI)).map (x :: ·) = _; rw [ints_map xs]; rfl
theorem o_all (xs : List Bool) : dAll [eL eB xs] = .ret (eB (xs.all id)) := by
  show (M.opt (blsOf (xs.map eB)) >>= _) = _; rw [bls_map]; rfl
theorem o_any (xs : List Bool) : dAny [eL eB xs] = .ret (eB (xs.any id)) := by
  show (M.opt (blsOf (xs.map eB)) >>= _) = _; rw [bls_map]; rfl
theorem o_sum (xs : List Int) : dSum [eL eI xs] = .ret (eI xs.sum) := by
  show (M.opt (intsOf (xs.map eI)) >>= _) = _; rw [ints_map]; rfl
/-! orders -/
structure Eo {α : Type} (n : Nat) (lt : α → α → Bool) (e : α → D) : Prop where
  pl : ∀ a, (e a).pl n = true
  alk : ∀ a b, D.alk (e a) (e b) = true
  lt : ∀ a b, D.lt (e a) (e b) = lt a b
  ne : ∀ a, D.tupE (e a) = false
  nn : ∀ a, (match e a with | .non => true | _ => false) = false
def ltI (a b : Int) : Bool := decide (a < b)
def ltS (a b : Str) : Bool := natsLt a.cps.toList b.cps.toList
def ltL [DecidableEq α] (lt : α → α → Bool) : List α → List α → Bool
  | [], [] => false
  | [], _ :: _ => true
  | _ :: _, [] => false
  | x :: xs, y :: ys => if x = y then ltL lt xs ys else lt x y
def ltT2 [DecidableEq α] (l1 : α → α → Bool) (l2 : β → β → Bool) (a b : α × β) : Bool := if a.1 = b.1 then (if l2 a.2 b.2 then true else false) else l1 a.1 b.1
theorem qI : Eo 0 ltI eI := ⟨fun a => by simp [eI, D.pl], fun a b => by simp [eI, D.alk], fun a b => by simp [eI, D.lt, ltI], fun a => rfl, fun a => rfl⟩
theorem qS : Eo 0 ltS eS := ⟨fun a => by simp [eS, D.pl], fun a b => by simp [eS, D.alk], fun a b => by simp [eS, D.lt, ltS], fun a => rfl, fun a => rfl⟩
def insT (lt : α → α → Bool) (x : α) : List α → List α
  | [] => [x]
  | y :: r => if lt y x then y :: insT lt x r else x :: y :: r
def sortT (lt : α → α → Bool) : List α → List α
  | [] => []
  | x :: xs => insT lt x (sortT lt xs)
def sortM (lt : α → α → Bool) (xs : List α) : M (List α) := .ret (sortT lt xs)
theorem ins_map {n : Nat} {lt : α → α → Bool} (q : Eo n lt e) (x : α) : ∀ xs : List α, insD (e x) (xs.map e) = (insT lt x xs).map e
  | [] => rfl
  | y :: r => by
    rw [List.map_cons, insD, insT, q.lt, ins_map q x r]
    split <;> rfl
theorem sort_map {n : Nat} {lt : α → α → Bool} (q : Eo n lt e) : ∀ xs : List α, sortD (xs.map e) = (sortT lt xs).map e
  | [] => rfl
  | x :: xs => by rw [List.map_cons, sortD, sortT, sort_map q xs, ins_map q]
theorem plL_mapO {n : Nat} {lt : α → α → Bool} (q : Eo n lt e) : ∀ xs : List α, D.plL n (xs.map e) = true
  | [] => by simp [D.plL]
  | x :: xs => by simp [D.plL, q.pl x, plL_mapO q xs]
theorem r_sorted {n : Nat} {lt : α → α → Bool} (q : Eo n lt e) (xs : List α) (hn : n ≤ 60 := by decide) : Ev (eL e) (dSorted [eL e xs]) (sortM lt xs) := by
  have h : srtOk (xs.map e) = true := by
    unfold srtOk
    rw [D.plL_mono _ hn (plL_mapO q xs)]
    simp only [Bool.true_and, Bool.and_eq_true, List.all_eq_true, List.mem_map]
    refine ⟨?_, ?_⟩
    · rintro _ ⟨a, _, rfl⟩ _ ⟨b, _, rfl⟩
      exact q.alk a b
    · rintro _ ⟨a, _, rfl⟩
      have h1 := q.ne a
      have h2 := q.nn a
      rw [h1]
      cases hd : e a <;> rw [hd] at h2 <;> first | exact ⟨rfl, rfl⟩ | cases h2
  show Ev (eL e) (if srtOk (xs.map e) then M.ret (.lst (sortD (xs.map e))) else .fail) _
  rw [h, sort_map q]; exact Rf.ret rfl
end
end DL

set_option Elab.async false
set_option linter.all false
set_option maxRecDepth 100000
/-! DL22: trees by type, dicts, two clauses, orders of tuples, draws, loops whose turns do not hang together, by plain functions. -/
namespace DL
open PySem PySem.Spec L2
open PyProof.Rows hiding St
section
variable {α β γ δ ρ σ : Type} {e : α → D} {f : β → D} {g : γ → D} {env : DEnv} {m ma mb mk mv md : DE} {m' : M D}

/-! ### trees by type -/
def asSD : D → M Str
  | .str x => .ret x
  | _ => .fail
def asLD : D → M (List D)
  | .lst xs => .ret xs
  | _ => .fail
theorem map_eD (xs : List D) : xs.map eD = xs := List.map_id xs
theorem q_I (d : D) : Ev eI (.ret d) (asI d) := by cases d <;> first | exact Rf.fail | exact Rf.ret rfl
theorem q_S (d : D) : Ev eS (.ret d) (asSD d) := by cases d <;> first | exact Rf.fail | exact Rf.ret rfl
theorem q_B (d : D) : Ev eB (.ret d) (asB d) := by cases d <;> first | exact Rf.fail | exact Rf.ret rfl
theorem q_L (d : D) : Ev (eL eD) (.ret d) (asLD d) := by
  cases d <;> first | exact Rf.fail | exact Rf.ret (by show D.lst _ = D.lst _; rw [map_eD])
theorem q_P {w : D → M α} (q : ∀ d, Ev e (.ret d) (w d)) {d : D} (h : m' = .ret d) : Ev e m' (w d) := by rw [h]; exact q d
theorem q_O {o : Option α} (h : m' = .ret (eO e o)) : Ev e m' (M.opt o) := by
  rw [h]
  cases o with
  | none => exact Rf.fail
  | some a => exact Rf.ret rfl
theorem q_E {w : D → M α} (q : ∀ d, Ev e (.ret d) (w d)) {t : M D} (h : Ev eD m' t) : Ev e m' (t >>= w) := .of fun P z => h.run P (M.wp_mono (M.wp_bind.mp z) fun d z d' r => by
  have r : d' = d := r
  subst r
  exact (q d').run P z)
theorem ri_id {n : M (List D)} : Rf (fun xs ds => ds = xs.map eD) n n := .of fun P q => M.wp_mono q fun a h => h a (map_eD a).symm
theorem i_D {d : D} (h : m env = .ret d) : Rf (fun xs ds => ds = xs.map eD) (iOver m env) (itemsM d) := by
  unfold iOver; rw [h]; exact ri_id
theorem i_DE {t : M D} (h : Ev eD (m env) t) : Rf (fun xs ds => ds = xs.map eD) (iOver m env) (t >>= itemsM) := x_bind h fun d => ri_id
def enumDM : D → M (List (Int × D))
  | .lst xs => .ret (enumT 0 xs)
  | _ => .fail
theorem enum_mapD (i : Nat) (xs : List D) : enumD i xs = (enumT i xs).map (eT2 eI eD) := by rw [← enum_map, map_eD]
theorem ri_enumD (d : D) : Rf (fun xs ds => ds = xs.map (eT2 eI eD)) (match d with
  | .lst xs => M.ret (enumD 0 xs)
  | _ => .fail) (enumDM d) := by
  cases d <;> first | exact Rf.fail | exact Rf.ret (enum_mapD _ _)
theorem i_enumD {d : D} (h : m env = .ret d) : Rf (fun xs ds => ds = xs.map (eT2 eI eD)) (iEnumD m env) (enumDM d) := by
  unfold iEnumD; rw [h]; exact ri_enumD d
theorem i_enumDE {t : M D} (h : Ev eD (m env) t) : Rf (fun xs ds => ds = xs.map (eT2 eI eD)) (iEnumD m env) (t >>= enumDM) := x_bind h fun d => ri_enumD d
def revDM : D → M D
  | .lst xs => .ret (.lst xs.reverse)
  | _ => .fail
theorem ri_revD (d : D) : Ev eD (match d with
  | .lst xs => M.ret (D.lst xs.reverse)
  | _ => .fail) (revDM d) := by
  cases d <;> first | exact Rf.fail | exact Rf.ret rfl
theorem r_revD {d : D} (h : m env = .ret d) : Ev eD (mRev m env) (revDM d) := by
  unfold mRev; rw [h]; exact ri_revD d
theorem r_revDE {t : M D} (h : Ev eD (m env) t) : Ev eD (mRev m env) (t >>= revDM) := x_bind h fun d => ri_revD d
theorem p_lstE {ms : DA} {xs : List α} (a : ms env = .ret (xs.map e)) (h : xs.length ≤ sizeLine) : mLst ms env = .ret (eL e xs) := p_lst a (by rw [List.length_map]; exact h)
theorem p_tupE {ms : DA} {xs : List α} (a : ms env = .ret (xs.map e)) (h : xs.length ≤ sizeLine) : mTup ms env = .ret (eV e xs) := p_tup a (by rw [List.length_map]; exact h)
theorem k_par {R : β → Fl × DEnv → Prop} {i j : Nat} {rest : DS} {d d' : D} {t : M β} (h : Rf R (rest ((env.set i (some (.val d))).set j (some (.val d')))) t) : Rf R (parK i j rest env [d, d']) t := h
/-! ### in -/
def memT [DecidableEq α] (a : α) : List α → Bool
  | [] => false
  | x :: xs => if a = x then true else memT a xs
theorem memT_eq [DecidableEq α] (a : α) : ∀ xs : List α, memT a xs = decide (a ∈ xs)
  | [] => by simp [memT]
  | x :: xs => by
    rw [memT, memT_eq a xs]
    by_cases h : a = x <;> simp [h]
theorem o_minL [DecidableEq α] {n : Nat} (c : Ec n e) (hn : n ≤ 63 := by decide) (a : α) (xs : List α) : dInX (e a) (eL e xs) = .ret (eB (memT a xs)) := by rw [o_inL c hn, memT_eq]
theorem o_minV [DecidableEq α] {n : Nat} (c : Ec n e) (hn : n ≤ 63 := by decide) (a : α) (xs : List α) : dInX (e a) (eV e xs) = .ret (eB (memT a xs)) := by rw [o_inV c hn, memT_eq]
theorem o_mnotInL [DecidableEq α] {n : Nat} (c : Ec n e) (hn : n ≤ 63 := by decide) (a : α) (xs : List α) : dNotInX (e a) (eL e xs) = .ret (eB (!memT a xs)) := by rw [o_notInL c hn, memT_eq]
theorem o_mnotInV [DecidableEq α] {n : Nat} (c : Ec n e) (hn : n ≤ 63 := by decide) (a : α) (xs : List α) : dNotInX (e a) (eV e xs) = .ret (eB (!memT a xs)) := by rw [o_notInV c hn, memT_eq]
/-! ### None or a value -/
theorem beq_non {d : D} (h : d ≠ .non) : D.beq d .non = false := by cases d <;> first | exact absurd rfl h | simp [D.beq]
theorem non_beq {d : D} (h : d ≠ .non) : D.beq .non d = false := by cases d <;> first | exact absurd rfl h | simp [D.beq]
theorem cO [DecidableEq α] {n : Nat} (c : Ec n e) (nn : ∀ a, e a ≠ .non) : Ec n (eO e) where
  pl := fun o => by
    cases o with
    | none => simp [eO, D.pl]
    | some a => exact c.pl a
  beq := fun o p => by
    cases o with
    | none =>
      cases p with
      | none => simp [eO, D.beq]
      | some b => show D.beq .non (e b) = _; rw [non_beq (nn b)]; simp
    | some a =>
      cases p with
      | none => show D.beq (e a) .non = _; rw [beq_non (nn a)]; simp
      | some b => show D.beq (e a) (e b) = _; rw [c.beq]; simp
/-! ### dicts -/
def eKp (e : α → D) (f : β → D) : α × β → D × D := fun p => (e p.1, f p.2)
def eK (e : α → D) (f : β → D) : List (α × β) → D := fun xs => .dct false (xs.map (eKp e f))
def putT [DecidableEq α] (xs : List (α × β)) (k : α) (v : β) : List (α × β) := if xs.any (fun p => decide (p.1 = k)) then xs.map (fun p => if p.1 = k then (p.1, v) else p) else xs ++ [(k, v)]
def valT [DecidableEq α] : List (α × β) → α → Option β
  | [], _ => none
  | p :: xs, k => if p.1 = k then some p.2 else valT xs k
def getM [DecidableEq α] (xs : List (α × β)) (k : α) : M β := M.opt (valT xs k)
def starM [DecidableEq α] (xs : List (α × β)) (k : α) (v : β) : M (List (α × β)) := if xs.length < sizeLine then .ret (putT xs k v) else .fail
def dictT [DecidableEq α] (xs : List (α × β)) : List (α × β) := xs.foldl (fun acc p => putT acc p.1 p.2) []
structure Ek [DecidableEq α] (e : α → D) : Prop where
  key : ∀ a, (e a).isKey = true
  beq : ∀ a b, D.beq (e a) (e b) = decide (a = b)
theorem kI : Ek eI := ⟨fun _ => rfl, fun a b => cI.beq a b⟩
theorem kS : Ek eS := ⟨fun _ => rfl, fun a b => cS.beq a b⟩
section
variable [DecidableEq α]
theorem val_map (c : Ek e) (k : α) : ∀ xs : List (α × β), valD (xs.map (eKp e f)) (e k) = (valT xs k).map f
  | [] => rfl
  | p :: xs => by
    have ih := val_map c k xs
    unfold valD at ih ⊢
    have hb : D.beq (eKp e f p).1 (e k) = decide (p.1 = k) := c.beq p.1 k
    rw [List.map_cons, List.find?_cons, valT]
    by_cases h : p.1 = k
    · simp only [hb, h, decide_true, if_true]; rfl
    · simp only [hb, h, decide_false, if_false]; exact ih
theorem put_map (c : Ek e) (k : α) (v : β) (xs : List (α × β)) : putD (xs.map (eKp e f)) (e k) (f v) = (putT xs k v).map (eKp e f) := by
  unfold putD putT
  have h1 : (xs.map (eKp e f)).any (fun p => D.beq p.1 (e k)) = xs.any fun p => decide (p.1 = k) := by
    rw [List.any_map]
    congr 1; funext p
    exact c.beq p.1 k
  rw [h1]
  split
  · rw [List.map_map, List.map_map]
    congr 1; funext p
    show (if D.beq (e p.1) (e k) then _ else _) = eKp e f (if p.1 = k then _ else _)
    rw [c.beq]
    by_cases h : p.1 = k
    · rw [if_pos h, decide_eq_true h]; rfl
    · rw [if_neg h, decide_eq_false h]; rfl
  · rw [List.map_append]; rfl
theorem r_ixK (c : Ek e) (xs : List (α × β)) (k : α) : Ev f (dIx (eK e f xs) (e k)) (getM xs k) := by
  have h := c.key k
  have q : dIx (eK e f xs) (e k) = M.opt (valD (xs.map (eKp e f)) (e k)) := by
    show (if keyOk false (e k) then M.opt (valD (xs.map (eKp e f)) (e k)) else .fail) = _
    rw [show keyOk false (e k) = true from h]; rfl
  rw [q, val_map c]
  unfold getM
  cases valT xs k with
  | none => exact Rf.fail
  | some a => exact Rf.ret rfl
theorem r_star (c : Ek e) {xs : List (α × β)} {k : α} {v : β} (h1 : md env = .ret (eK e f xs)) (h2 : mk env = .ret (e k)) (h3 : mv env = .ret (f v)) : Ev (eK e f) (mStar md mk mv env) (starM xs k v) := by
  unfold mStar
  rw [h1]
  show Ev _ (if (xs.map (eKp e f)).length < sizeLine then mk env >>= fun k => if k.isKey then mv env >>= fun v => .ret (.dct false (putD (xs.map (eKp e f)) k v)) else .fail else .fail) _
  rw [List.length_map]
  unfold starM
  split
  · rw [h2]
    show Ev _ (if (e k).isKey then mv env >>= fun v => .ret (.dct false (putD (xs.map (eKp e f)) (e k) v)) else .fail) _
    rw [c.key, h3]
    show Ev _ (.ret (.dct false (putD (xs.map (eKp e f)) (e k) (f v)))) _
    rw [put_map c]
    exact Rf.ret rfl
  · exact Rf.fail
theorem pairs_map (c : Ek e) : ∀ xs : List (α × β), pairsD (xs.map (eT2 e f)) = some (xs.map (eKp e f))
  | [] => rfl
  | p :: xs => by
    show (if (e p.1).isKey then (pairsD (xs.map (eT2 e f))).map ((e p.1, f p.2) :: ·) else none) = _
    rw [c.key, pairs_map c xs]; rfl
theorem merge_map (c : Ek e) : ∀ (ys xs : List (α × β)), mergeD (xs.map (eKp e f)) (ys.map (eKp e f)) = (ys.foldl (fun acc p => putT acc p.1 p.2) xs).map (eKp e f)
  | [], xs => rfl
  | y :: ys, xs => by
    show mergeD (putD (xs.map (eKp e f)) (e y.1) (f y.2)) (ys.map (eKp e f)) = _
    rw [put_map c, merge_map c ys]; rfl
theorem o_dict (c : Ek e) (xs : List (α × β)) : dDict [eL (eT2 e f) xs] = .ret (eK e f (dictT xs)) := by
  show (match pairsD (xs.map (eT2 e f)) with
    | some ps => M.ret (D.dct false (mergeD [] ps))
    | none => .fail) = _
  rw [pairs_map c]
  show M.ret (D.dct false (mergeD ([].map (eKp e f)) (xs.map (eKp e f)))) = _
  rw [merge_map c]; rfl
end
theorem p_newK : mNewK env = .ret (eK e f []) := rfl
/-! ### comprehensions of two clauses -/
def lc2I (c : β → M Bool) (h : β → M γ) : List β → List γ → M (List γ)
  | [], acc => .ret acc
  | y :: ys, acc => c y >>= fun k => if k then h y >>= fun z => if acc.length < sizeLine then lc2I c h ys (acc ++ [z]) else .fail else lc2I c h ys acc
def lc2L (c1 : α → M Bool) (it : α → M (List β)) (c2 : α → β → M Bool) (h : α → β → M γ) : List α → List γ → M (List γ)
  | [], acc => .ret acc
  | x :: xs, acc => c1 x >>= fun k => if k then it x >>= fun ys => lc2I (c2 x) (h x) ys acc >>= fun acc' => lc2L c1 it c2 h xs acc' else lc2L c1 it c2 h xs acc
theorem rf_lc2I {vs1 : List Nat} {g1 : DG} {mt1 : DT} {me : DE} {env1 : DEnv} {E2 : β → DEnv} {c : β → M Bool} {h : β → M γ} (hg : ∀ y, g1 (f y) (wipeE env1 vs1) = .ret (E2 y)) (ht : ∀ y, EvT (mt1 (E2 y)) (c y)) (he : ∀ y, Ev g (me (E2 y)) (h y)) :
    ∀ (ys : List β) (acc : List γ), Rf (fun (zs : List γ) ds => ds = zs.map g) (mLc2I vs1 g1 mt1 me env1 (ys.map f) (acc.map g)) (lc2I c h ys acc)
  | [], acc => Rf.ret rfl
  | y :: ys, acc => by
    show Rf _ (g1 (f y) (wipeE env1 vs1) >>= fun env2 => mt1 env2 >>= _) (c y >>= _)
    rw [hg]
    refine x_test (ht y) fun k => ?_
    cases k with
    | true =>
      refine x_bind (he y) fun z => ?_
      show Rf _ (if (acc.map g).length < sizeLine then mLc2I vs1 g1 mt1 me env1 (ys.map f) (acc.map g ++ [g z]) else .fail) (if acc.length < sizeLine then _ else _)
      rw [List.length_map]
      split
      · have ih := rf_lc2I hg ht he ys (acc ++ [z])
        rw [List.map_append] at ih
        exact ih
      · exact Rf.fail
    | false => exact rf_lc2I hg ht he ys acc
theorem rf_lc2L {vs vs1 : List Nat} {gg g1 : DG} {mt mt1 : DT} {mi1 : DI} {me : DE} {envw : DEnv} {E1 : α → DEnv} {E2 : α → β → DEnv} {c1 : α → M Bool} {it : α → M (List β)} {c2 : α → β → M Bool} {h : α → β → M γ}
    (hg : ∀ x, gg (e x) envw = .ret (E1 x)) (ht : ∀ x, EvT (mt (E1 x)) (c1 x)) (ok : ∀ x, vs.all (notOwn (E1 x)) = true) (hi : ∀ x, Rf (fun ys ds => ds = ys.map f) (mi1 (E1 x)) (it x))
    (hg1 : ∀ x y, g1 (f y) (wipeE (E1 x) vs1) = .ret (E2 x y)) (ht1 : ∀ x y, EvT (mt1 (E2 x y)) (c2 x y)) (he : ∀ x y, Ev g (me (E2 x y)) (h x y)) :
    ∀ (xs : List α) (acc : List γ), Rf (fun (zs : List γ) ds => ds = zs.map g) (mLc2L vs vs1 gg mt mi1 g1 mt1 me envw (xs.map e) (acc.map g)) (lc2L c1 it c2 h xs acc)
  | [], acc => Rf.ret rfl
  | x :: xs, acc => by
    show Rf _ (gg (e x) envw >>= fun env1 => mt env1 >>= _) (c1 x >>= _)
    rw [hg]
    refine x_test (ht x) fun k => ?_
    cases k with
    | true =>
      show Rf _ (if vs.all (notOwn (E1 x)) then mi1 (E1 x) >>= fun es => mLc2I vs1 g1 mt1 me (E1 x) es (acc.map g) >>= fun acc' => mLc2L vs vs1 gg mt mi1 g1 mt1 me envw (xs.map e) acc' else .fail) _
      rw [ok]
      refine (hi x).bind fun ys ds hd => ?_
      subst hd
      refine (rf_lc2I (hg1 x) (ht1 x) (he x) ys acc).bind fun zs ds hd => ?_
      subst hd
      exact rf_lc2L hg ht ok hi hg1 ht1 he xs zs
    | false => exact rf_lc2L hg ht ok hi hg1 ht1 he xs acc
theorem r_lc2E {vs vs1 : List Nat} {mi mi1 : DI} {gg g1 : DG} {mt mt1 : DT} {me : DE} {E1 : α → DEnv} {E2 : α → β → DEnv} {tx : M (List α)} {c1 : α → M Bool} {it : α → M (List β)} {c2 : α → β → M Bool} {h : α → β → M γ}
    (ok0 : vs.all (notOwn env) = true) (hi0 : Rf (fun xs ds => ds = xs.map e) (mi env) tx)
    (hg : ∀ x, gg (e x) (wipeE env vs) = .ret (E1 x)) (ht : ∀ x, EvT (mt (E1 x)) (c1 x)) (ok : ∀ x, vs.all (notOwn (E1 x)) = true) (hi : ∀ x, Rf (fun ys ds => ds = ys.map f) (mi1 (E1 x)) (it x))
    (hg1 : ∀ x y, g1 (f y) (wipeE (E1 x) vs1) = .ret (E2 x y)) (ht1 : ∀ x y, EvT (mt1 (E2 x y)) (c2 x y)) (he : ∀ x y, Ev g (me (E2 x y)) (h x y)) :
    Ev (eL g) (mLc2 vs vs1 mi gg mt mi1 g1 mt1 me env) (tx >>= fun xs => lc2L c1 it c2 h xs []) := by
  unfold mLc2
  rw [if_pos ok0]
  refine hi0.bind fun xs ds hd => ?_
  subst hd
  refine .of fun P q => ?_
  exact M.wp_bind.mpr ((rf_lc2L (f := f) hg ht ok hi hg1 ht1 he xs []).run _ (M.wp_mono q fun zs q d hd => q _ (by rw [hd]; rfl)))
/-! ### orders of tuples -/
theorem ltL_map [DecidableEq α] {n k : Nat} {lt : α → α → Bool} (c : Ec n e) (q : Eo k lt e) : ∀ xs ys : List α, D.ltL (xs.map e) (ys.map e) = ltL lt xs ys
  | [], [] => by simp [D.ltL, ltL]
  | [], y :: ys => by simp [D.ltL, ltL]
  | x :: xs, [] => by simp [D.ltL, ltL]
  | x :: xs, y :: ys => by
    rw [List.map_cons, List.map_cons, D.ltL, ltL, c.beq, ltL_map c q xs ys, q.lt]
    by_cases h : x = y <;> simp [h]
theorem alkL_map {n : Nat} {lt : α → α → Bool} (q : Eo n lt e) : ∀ xs ys : List α, D.alkL (xs.map e) (ys.map e) = true
  | [], _ => by simp [D.alkL]
  | x :: xs, [] => by simp [D.alkL]
  | x :: xs, y :: ys => by rw [List.map_cons, List.map_cons, D.alkL, q.alk, alkL_map q xs ys]; rfl
def ltP2 [DecidableEq α] [DecidableEq β] (l1 : α → α → Bool) (l2 : β → β → Bool) (a b : α × β) : Bool := if a.1 = b.1 then (if a.2 = b.2 then false else l2 a.2 b.2) else l1 a.1 b.1
theorem qT2 [DecidableEq α] [DecidableEq β] {n m k j : Nat} {l1 : α → α → Bool} {l2 : β → β → Bool} (c1 : Ec k e) (q1 : Eo n l1 e) (c2 : Ec j f) (q2 : Eo m l2 f) : Eo (max n m + 1) (ltP2 l1 l2) (eT2 e f) where
  pl := fun a => by simp only [eT2, D.pl, D.plL, D.pl_mono _ (Nat.le_max_left n m) (q1.pl a.1), D.pl_mono _ (Nat.le_max_right n m) (q2.pl a.2)]; rfl
  alk := fun a b => by simp [eT2, D.alk, D.alkL, q1.alk, q2.alk]
  lt := fun a b => by
    simp only [eT2, D.lt, D.ltL, c1.beq, c2.beq, q1.lt, q2.lt, ltP2]
    by_cases h : a.1 = b.1
    · by_cases h2 : a.2 = b.2 <;> simp [h, h2]
    · simp [h]
  ne := fun a => rfl
  nn := fun a => rfl
theorem qL [DecidableEq α] {n k : Nat} {lt : α → α → Bool} (c : Ec k e) (q : Eo n lt e) : Eo (n + 1) (ltL lt) (eL e) where
  pl := fun a => by simp only [eL, D.pl]; exact plL_mapO q a
  alk := fun a b => by simp only [eL, D.alk]; exact alkL_map q a b
  lt := fun a b => by simp only [eL, D.lt]; exact ltL_map c q a b
  ne := fun a => rfl
  nn := fun a => rfl
/-- tuples of any length: none of them empty -/
def sortVM (lt : α → α → Bool) (xs : List (List α)) [DecidableEq α] : M (List (List α)) := if xs.any List.isEmpty then .fail else .ret (sortT (ltL lt) xs)
theorem ins_mapV [DecidableEq α] {n k : Nat} {lt : α → α → Bool} (c : Ec k e) (q : Eo n lt e) (x : List α) : ∀ xs : List (List α), insD (eV e x) (xs.map (eV e)) = (insT (ltL lt) x xs).map (eV e)
  | [] => rfl
  | y :: r => by
    have h : D.lt (eV e y) (eV e x) = ltL lt y x := by simp only [eV, D.lt]; exact ltL_map c q y x
    rw [List.map_cons, insD, insT, h, ins_mapV c q x r]
    split <;> rfl
theorem sort_mapV [DecidableEq α] {n k : Nat} {lt : α → α → Bool} (c : Ec k e) (q : Eo n lt e) : ∀ xs : List (List α), sortD (xs.map (eV e)) = (sortT (ltL lt) xs).map (eV e)
  | [] => rfl
  | x :: xs => by rw [List.map_cons, sortD, sortT, sort_mapV c q xs, ins_mapV c q]
theorem r_sortedV [DecidableEq α] {n k : Nat} {lt : α → α → Bool} (c : Ec k e) (q : Eo n lt e) (xs : List (List α)) (hn : n + 1 ≤ 60 := by decide) : Ev (eL (eV e)) (dSorted [eL (eV e) xs]) (sortVM lt xs) := by
  unfold sortVM
  split
  · exact Rf.fail
  · rename_i hx
    have hp : ∀ a : List α, (eV e a).pl (n + 1) = true := fun a => by simp only [eV, D.pl]; exact plL_mapO q a
    have hpl : ∀ ys : List (List α), D.plL (n + 1) (ys.map (eV e)) = true := by
      intro ys
      induction ys with
      | nil => simp [D.plL]
      | cons y ys ih => rw [List.map_cons, D.plL, hp, ih]; rfl
    have h : srtOk (xs.map (eV e)) = true := by
      unfold srtOk
      rw [D.plL_mono _ hn (hpl xs)]
      simp only [Bool.true_and, Bool.and_eq_true, List.all_eq_true, List.mem_map]
      refine ⟨?_, ?_⟩
      · rintro _ ⟨a, _, rfl⟩ _ ⟨b, _, rfl⟩
        simp only [eV, D.alk]; exact alkL_map q a b
      · rintro _ ⟨a, ha, rfl⟩
        refine ⟨?_, rfl⟩
        cases a with
        | nil => exact absurd (List.any_eq_true.mpr ⟨[], ha, rfl⟩) hx
        | cons y ys => rfl
    show Ev _ (if srtOk (xs.map (eV e)) then M.ret (.lst (sortD (xs.map (eV e)))) else .fail) _
    rw [h, sort_mapV c q]; exact Rf.ret rfl
/-! ### draws -/
def askM (k : Int) : M Int := .ask k .ret
theorem r_take (k : Int) : Ev eI (takeM [eD .stt, eI k]) (askM k) := Rf.ask fun i => Rf.ret rfl
/-! ### loops whose turns do not hang together: one turn -/
def onceE {ρ : Type} : Fw Unit ρ → M (Fw Unit ρ)
  | .go s => .ret (.go s)
  | .brk s => .ret (.go s)
  | .back r => .ret (.back r)
def onceR {ρ : Type} (f : Unit → M (Fw Unit ρ)) : List α → Unit → M (Fw Unit ρ)
  | [], _ => .ret (.go ())
  | _ :: _, _ => f () >>= onceE
theorem rf_onceR {gg : DG} {mb : DS} {E : Unit → DEnv} {E1 : α → Unit → DEnv} {eρ : ρ → D} {f : Unit → M (Fw Unit ρ)} (hg : ∀ x s, gg (e x) (E s) = .ret (E1 x s)) (hb : ∀ x s, Rf (RTn E eρ) (mb (E1 x s)) (f s)) : ∀ (xs : List α) (s : Unit), Rf (RLp E eρ) (mForL gg mb (xs.map e) (E s)) (onceR f xs s)
  | [], s => Rf.ret rfl
  | [x], s => by
    show Rf _ (gg (e x) (E s) >>= fun env1 => mb env1 >>= _) (f () >>= _)
    rw [hg]
    refine (hb x s).bind fun o p r => ?_
    cases o with
    | go s' => rcases r with r | r <;> subst r <;> exact Rf.ret rfl
    | brk s' =>
      have r : p = (.bk, E s') := r
      subst r; exact Rf.ret rfl
    | back r' =>
      obtain ⟨fl, env2⟩ := p
      have r1 : fl = .rt (eρ r') := r
      subst r1; exact Rf.ret rfl
  | x :: y :: ys, s => by
    refine .of fun P q => ?_
    have ih := (rf_onceR hg hb (y :: ys) s).run P q
    have q1 := M.wp_bind.mp q
    show (gg (e x) (E s) >>= fun env1 => mb env1 >>= _).wp P
    rw [hg]
    show (mb (E1 x s) >>= _).wp P
    refine M.wp_bind.mpr ((hb x s).run _ (M.wp_mono q1 fun o qo p r => ?_))
    cases o with
    | go s' => rcases r with r | r <;> subst r <;> exact ih
    | brk s' =>
      have r : p = (.bk, E s') := r
      subst r; exact qo _ rfl
    | back r' =>
      obtain ⟨fl, env2⟩ := p
      have r1 : fl = .rt (eρ r') := r
      subst r1; exact qo _ rfl
end
end DL

set_option Elab.async false
set_option linter.all false
set_option maxRecDepth 100000
/-! DL23: runs of plain functions: values, loops whose turns all go on. -/
namespace DL
open PySem PySem.Spec L2
open PyProof.Rows hiding St
def M.val {α : Type} : M α → Option α
  | .ret a => some a
  | _ => none
theorem M.val_eq {α : Type} {m : M α} {a : α} (h : m.val = some a) : m = .ret a := by
  cases m with
  | ret b => cases h; rfl
  | fail => cases h
  | ask k f => cases h
theorem M.val_bind {α β : Type} {m : M α} {g : α → M β} {b : β} (h : (m >>= g).val = some b) : ∃ a, m = .ret a ∧ g a = .ret b := by
  cases m with
  | ret a => exact ⟨a, rfl, M.val_eq h⟩
  | fail => cases h
  | ask k f => cases h
theorem loopR_go {α σ ρ : Type} {f : α → σ → M (Fw σ ρ)} {st : α → σ → σ} : ∀ (xs : List α) (s : σ), (∀ x ∈ xs, ∀ s, f x s = .ret (.go (st x s))) → loopR f xs s = .ret (.go (xs.foldl (fun s x => st x s) s))
  | [], s, h => rfl
  | x :: xs, s, h => by
    show (f x s >>= _) = _
    rw [h x List.mem_cons_self s]
    exact loopR_go xs (st x s) fun y hy => h y (List.mem_cons_of_mem _ hy)
/-- two things that hold so far -/
theorem fold_and {α : Type} (p q : α → Bool) : ∀ (xs : List α) (a b : Bool), xs.foldl (fun s x => (s.1 && p x, s.2 && q x)) (a, b) = (a && xs.all p, b && xs.all q)
  | [], a, b => by simp
  | x :: xs, a, b => by
    rw [List.foldl_cons, fold_and p q xs]
    simp [Bool.and_assoc]
theorem rgT_mem {a b x : Int} (h : x ∈ rgT a b) : a ≤ x ∧ x < b := by
  unfold rgT at h
  obtain ⟨i, hi, rfl⟩ := List.mem_map.mp h
  rw [List.mem_range] at hi
  omega
theorem rgT_all (n : Nat) (p : Int → Bool) : (rgT 0 n).all p = (List.range n).all fun i => p (i : Nat) := by
  unfold rgT
  rw [List.all_map]
  have : ((n : Int) - 0).toNat = n := by omega
  rw [this]
  congr 1
  funext i
  show p (0 + (i : Nat)) = _
  rw [Int.zero_add]
end DL

set_option Elab.async false
set_option linter.all false
set_option maxRecDepth 100000
/-! DL24: dicts with nested keys, signs of texts, None or not in lists, by plain functions. -/
namespace DL
open PySem PySem.Spec L2
open PyProof.Rows hiding St
section
variable {α β γ δ ρ σ : Type} {e : α → D} {f : β → D} {g : γ → D} {env : DEnv} {m ma mb mk mv mx md : DE} {m' : M D} {n : Nat}
theorem nnT3 (a : α × β × γ) : eT3 e f g a ≠ .non := fun h => D.noConfusion (show D.tup _ = D.non from h)
theorem nnB (a : Bool) : eB a ≠ .non := fun h => D.noConfusion (show D.bl _ = D.non from h)
/-! ### keys -/
def Nk (n : Nat) (e : α → D) : Prop := ∀ a, ∃ k, D.nk (e a) = some k ∧ k.depth ≤ n
theorem nkI : Nk 0 eI := fun a => ⟨_, rfl, Nat.le_refl _⟩
theorem nkS : Nk 0 eS := fun a => ⟨_, rfl, Nat.le_refl _⟩
theorem nkN : Nk 0 eN := fun a => ⟨_, rfl, Nat.le_refl _⟩
theorem nkT2 {k : Nat} (a : Nk n e) (b : Nk k f) : Nk (max n k + 1) (eT2 e f) := fun p => by
  obtain ⟨k1, e1, h1⟩ := a p.1
  obtain ⟨k2, e2, h2⟩ := b p.2
  refine ⟨.tup [k1, k2], by simp [eT2, D.nk, D.nkL, e1, e2], ?_⟩
  simp only [NestedKey.depth, NestedKey.depthAll]
  omega
theorem nkL_map (a : Nk n e) : ∀ xs : List α, ∃ ks, D.nkL (xs.map e) = some ks ∧ NestedKey.depthAll ks ≤ n
  | [] => ⟨[], by simp [D.nkL], by simp [NestedKey.depthAll]⟩
  | x :: xs => by
    obtain ⟨k, e1, h1⟩ := a x
    obtain ⟨ks, e2, h2⟩ := nkL_map a xs
    exact ⟨k :: ks, by rw [List.map_cons, D.nkL, e1, e2], by simp only [NestedKey.depthAll]; omega⟩
theorem nkV (a : Nk n e) : Nk (n + 1) (eV e) := fun xs => by
  obtain ⟨ks, e2, h2⟩ := nkL_map a xs
  exact ⟨.tup ks, by show (D.nkL (xs.map e)).map NestedKey.tup = _; rw [e2]; rfl, by simp only [NestedKey.depth]; omega⟩
structure Ekn [DecidableEq α] (e : α → D) : Prop where
  key : ∀ a, keyOkN (e a) = true
  beq : ∀ a b, D.beq (e a) (e b) = decide (a = b)
theorem keyOkN_tup {xs : List D} {k : NestedKey} (h : D.nk (.tup xs) = some k) (h8 : k.depth ≤ 8) : keyOkN (.tup xs) = true := by simp only [keyOkN, h]; exact decide_eq_true h8
theorem knV [DecidableEq α] {k : Nat} (c : Ec k e) (a : Nk n e) (hn : n + 1 ≤ 8 := by decide) : Ekn (eV e) := ⟨fun xs => by
  obtain ⟨k, h1, h2⟩ := nkV a xs
  exact keyOkN_tup h1 (by omega), fun a b => (cV c).beq a b⟩
def eM (e : α → D) (f : β → D) : List (α × β) → D := fun xs => .dcn (xs.map (eKp e f))
section
variable [DecidableEq α]
theorem val_mapN (c : Ekn e) (k : α) : ∀ xs : List (α × β), valD (xs.map (eKp e f)) (e k) = (valT xs k).map f
  | [] => rfl
  | p :: xs => by
    have ih := val_mapN c k xs
    unfold valD at ih ⊢
    have hb : D.beq (eKp e f p).1 (e k) = decide (p.1 = k) := c.beq p.1 k
    rw [List.map_cons, List.find?_cons, valT]
    by_cases h : p.1 = k
    · simp only [hb, h, decide_true, if_true]; rfl
    · simp only [hb, h, decide_false, if_false]; exact ih
theorem put_mapN (c : Ekn e) (k : α) (v : β) (xs : List (α × β)) : putD (xs.map (eKp e f)) (e k) (f v) = (putT xs k v).map (eKp e f) := by
  unfold putD putT
  have h1 : (xs.map (eKp e f)).any (fun p => D.beq p.1 (e k)) = xs.any fun p => decide (p.1 = k) := by
    rw [List.any_map]
    congr 1; funext p
    exact c.beq p.1 k
  rw [h1]
  split
  · rw [List.map_map, List.map_map]
    congr 1; funext p
    show (if D.beq (e p.1) (e k) then _ else _) = eKp e f (if p.1 = k then _ else _)
    rw [c.beq]
    by_cases h : p.1 = k
    · rw [if_pos h, decide_eq_true h]; rfl
    · rw [if_neg h, decide_eq_false h]; rfl
  · rw [List.map_append]; rfl
theorem r_ixN (c : Ekn e) (xs : List (α × β)) (k : α) : Ev f (dIxN (eM e f xs) (e k)) (getM xs k) := by
  have q : dIxN (eM e f xs) (e k) = M.opt (valD (xs.map (eKp e f)) (e k)) := by
    show (if keyOkN (e k) then M.opt (valD (xs.map (eKp e f)) (e k)) else .fail) = _
    rw [c.key]; rfl
  rw [q, val_mapN c]
  unfold getM
  cases valT xs k with
  | none => exact Rf.fail
  | some a => exact Rf.ret rfl
def getDT (xs : List (α × β)) (k : α) (x : β) : β := (valT xs k).getD x
theorem p_getN (c : Ekn e) {xs : List (α × β)} {k : α} {x : β} (h1 : m env = .ret (eM e f xs)) (h2 : mk env = .ret (e k)) (h3 : mx env = .ret (f x)) : mGetN m mk mx env = .ret (f (getDT xs k x)) := by
  unfold mGetN
  rw [h1]
  show (mk env >>= fun k => mx env >>= fun x => if keyOkN k then M.ret ((valD (xs.map (eKp e f)) k).getD x) else .fail) = _
  rw [h2]
  show (mx env >>= fun x => if keyOkN (e k) then M.ret ((valD (xs.map (eKp e f)) (e k)).getD x) else .fail) = _
  rw [h3]
  show (if keyOkN (e k) then M.ret ((valD (xs.map (eKp e f)) (e k)).getD (f x)) else .fail) = _
  rw [c.key, val_mapN c]
  unfold getDT
  cases valT xs k <;> rfl
def putM (xs : List (α × β)) (k : α) (v : β) : M (List (α × β)) := if xs.length < sizeLine then .ret (putT xs k v) else .fail
theorem s_putNP {R : ρ → Fl × DEnv → Prop} {i : Nat} {rest : DS} (c : Ekn e) {xs : List (α × β)} {k : α} {v : β} {t : List (α × β) → M ρ} (h1 : mv env = .ret (f v)) (h2 : mk env = .ret (e k)) (hx : env[i]? = some (some (.own (eM e f xs)))) (q : ∀ ys, Rf R (rest (env.set i (some (.own (eM e f ys))))) (t ys)) :
    Rf R (mSeq (mPutN i mk mv) rest env) (putM xs k v >>= t) := by
  unfold mSeq mPutN
  rw [h1]
  show Rf R ((mk env >>= fun k => match env[i]? with
    | some (some (.own (.dcn kvs))) => if keyOkN k && decide (kvs.length < sizeLine) then M.ret (Fl.nx, env.set i (some (.own (.dcn (putD kvs k (f v)))))) else .fail
    | _ => .fail) >>= _) _
  rw [h2]
  show Rf R ((match env[i]? with
    | some (some (.own (.dcn kvs))) => if keyOkN (e k) && decide (kvs.length < sizeLine) then M.ret (Fl.nx, env.set i (some (.own (.dcn (putD kvs (e k) (f v)))))) else .fail
    | _ => .fail) >>= _) _
  rw [hx]
  show Rf R ((if keyOkN (e k) && decide ((xs.map (eKp e f)).length < sizeLine) then M.ret (Fl.nx, env.set i (some (.own (.dcn (putD (xs.map (eKp e f)) (e k) (f v)))))) else .fail) >>= _) _
  rw [c.key, List.length_map, put_mapN c]
  unfold putM
  by_cases z : xs.length < sizeLine
  · rw [if_pos z, decide_eq_true z]; exact q _
  · rw [if_neg z, decide_eq_false z]; exact Rf.fail
end
theorem p_newN : mNewN env = .ret (eM e f []) := rfl
theorem keys_map (xs : List (α × β)) : (xs.map (eKp e f)).map (·.1) = (xs.map (·.1)).map e := by rw [List.map_map, List.map_map]; rfl
def keysT (xs : List (α × β)) : List α := xs.map (·.1)
theorem r_sortedNV [DecidableEq α] {k : Nat} {lt : α → α → Bool} (c : Ec k e) (q : Eo n lt e) (xs : List (List α × β)) (hn : n + 1 ≤ 60 := by decide) : Ev (eL (eV e)) (dSortedN [eM (eV e) f xs]) (sortVM lt (keysT xs)) := by
  have h := r_sortedV c q (keysT xs) hn
  have e1 : dSortedN [eM (eV e) f xs] = dSorted [eL (eV e) (keysT xs)] := by
    show (if srtOk ((xs.map (eKp (eV e) f)).map (·.1)) then M.ret (D.lst (sortD ((xs.map (eKp (eV e) f)).map (·.1)))) else .fail) = _
    rw [keys_map]; rfl
  rw [e1]; exact h
/-! ### None or not, in lists -/
theorem p_toLO {xs : List α} (h : m' = .ret (eL e xs)) : m' = .ret (eL (eO e) (xs.map some)) := by
  rw [h]; show M.ret (D.lst _) = M.ret (D.lst _); rw [List.map_map]; rfl
theorem e_toLO {t : M (List α)} (h : Ev (eL e) m' t) : Ev (eL (eO e)) m' (t >>= fun xs => .ret (xs.map some)) := .of fun P q => h.run P (M.wp_mono (M.wp_bind.mp q) fun xs q d r => q d (by
  have r : d = eL e xs := r
  rw [r]; show D.lst _ = D.lst _; rw [List.map_map]; rfl))
/-! ### slices with bounds that do not come out at once -/
theorem o_someE {t : M Int} {g : Option Int → M δ} {R : γ → δ → Prop} {k : Int → M γ} (b : Ev eI (mb env) t) (h : ∀ l, Rf R (g (some l)) (k l)) : Rf R (oSome mb env >>= g) (t >>= k) := by
  have e : (oSome mb env >>= g) = (mb env >>= fun x => asI x >>= fun i => g (some i)) := by
    show ((mb env).bind fun x => (asI x).bind fun i => M.ret (some i)).bind g = _
    rw [M.bind_assoc']
    congr 1; funext x
    rw [M.bind_assoc'] <;> rfl
  rw [e]
  exact x_bind b h
theorem r_slLo {hi : DO} {h : Option Int} {x : D} {gg : D → Option Int → Option Int → M D} {t : M Int} {w : Int → α} (a : m env = .ret x) (b : Ev eI (mb env) t) (c : hi env = .ret h) (k : ∀ l, gg x (some l) h = .ret (e (w l))) : Ev e (mSl gg m (oSome mb) hi env) (t >>= fun l => .ret (w l)) := by
  unfold mSl; rw [a]
  exact o_someE b fun l => by rw [c]; show Rf _ (gg x (some l) h) _; rw [k]; exact Rf.ret rfl
theorem r_slHi {lo : DO} {l : Option Int} {x : D} {gg : D → Option Int → Option Int → M D} {t : M Int} {w : Int → α} (a : m env = .ret x) (c : lo env = .ret l) (b : Ev eI (mb env) t) (k : ∀ h, gg x l (some h) = .ret (e (w h))) : Ev e (mSl gg m lo (oSome mb) env) (t >>= fun h => .ret (w h)) := by
  unfold mSl; rw [a]
  show Rf _ (lo env >>= _) _
  rw [c]
  exact o_someE b fun h => by show Rf _ (gg x l (some h)) _; rw [k]; exact Rf.ret rfl
theorem r_slLH {x : D} {gg : D → Option Int → Option Int → M D} {t t' : M Int} {w : Int → Int → α} (a : m env = .ret x) (b : Ev eI (mb env) t) (c : Ev eI (mk env) t') (k : ∀ l h, gg x (some l) (some h) = .ret (e (w l h))) : Ev e (mSl gg m (oSome mb) (oSome mk) env) (t >>= fun l => t' >>= fun h => .ret (w l h)) := by
  unfold mSl; rw [a]
  exact o_someE b fun l => o_someE c fun h => by rw [k]; exact Rf.ret rfl
/-! ### signs of texts -/
def ixS (x : Str) (i : Int) : M Str := match atI x.cps.toList i with
  | some c => .ret ⟨#[c]⟩
  | none => .fail
theorem r_ixS (x : Str) (i : Int) : Ev eS (dIx (eS x) (eI i)) (ixS x i) := by
  show Ev eS (match atI x.cps.toList i with
    | some c => M.ret (.str ⟨#[c]⟩)
    | none => .fail) (match atI x.cps.toList i with
    | some c => .ret ⟨#[c]⟩
    | none => .fail)
  cases atI x.cps.toList i with
  | none => exact Rf.fail
  | some c => exact Rf.ret rfl
end
end DL

set_option Elab.async false
set_option linter.all false
set_option maxRecDepth 100000
/-! DL25: walks over dicts with nested keys, sorted tuples, int(..), two new lists, by plain functions. -/
namespace DL
open PySem PySem.Spec L2
open PyProof.Rows hiding St
section
variable {α β γ δ ρ σ : Type} {e : α → D} {f : β → D} {g : γ → D} {env : DEnv} {m ma mb mk mv mx md : DE} {m' : M D} {n : Nat}
theorem p_dispN [DecidableEq α] (c : Ekn e) {k : α} {v : β} (h1 : mk env = .ret (e k)) (h2 : mv env = .ret (f v)) : mDispN mk mv env = .ret (eM e f [(k, v)]) := by
  unfold mDispN; rw [h1]
  show (mv env >>= fun v => if keyOkN (e k) then M.ret (D.dcn [(e k, v)]) else .fail) = _
  rw [h2]
  show (if keyOkN (e k) then M.ret (D.dcn [(e k, f v)]) else .fail) = _
  rw [c.key]; rfl
theorem i_itemsN {xs : List (α × β)} (h : m env = .ret (eM e f xs)) : iItemsN m env = .ret (xs.map (eT2 e f)) := by
  unfold iItemsN; rw [h]
  show M.ret ((xs.map (eKp e f)).map pairD) = _
  rw [List.map_map]; rfl
theorem i_keysN {xs : List (α × β)} (h : m env = .ret (eM e f xs)) : iKeysN m env = .ret ((keysT xs).map e) := by
  unfold iKeysN; rw [h]
  show M.ret ((xs.map (eKp e f)).map (·.1)) = _
  rw [keys_map]; rfl
theorem r_sortedXV {lt : α → α → Bool} (q : Eo n lt e) (xs : List α) (hn : n ≤ 60 := by decide) : Ev (eL e) (dSortedX [eV e xs]) (sortM lt xs) := r_sorted q xs hn
theorem r_sortedXL {lt : α → α → Bool} (q : Eo n lt e) (xs : List α) (hn : n ≤ 60 := by decide) : Ev (eL e) (dSortedX [eL e xs]) (sortM lt xs) := r_sorted q xs hn
theorem o_intI (i : Int) : dInt [eI i] = .ret (eI i) := rfl
theorem o_intB (b : Bool) : dInt [eB b] = .ret (eI (if b then 1 else 0)) := by cases b <;> rfl
theorem s_parN {R : ρ → Fl × DEnv → Prop} {i j : Nat} {rest : DS} {t : M ρ} (k : Rf R (rest ((env.set i (some (.own (eL e [])))).set j (some (.own (eL f []))))) t) : Rf R (mSeq (mParN i j) rest env) t := k
/-! ### ends of blocks that change nothing -/
theorem e_goNp {E : σ → DEnv} {s : σ} (h : env = E s) : Rf (RN E) (mPass env) (.ret s) := by rw [h]; exact Rf.ret rfl
theorem e_goLp {E : σ → DEnv} {eρ : ρ → D} {s : σ} (h : env = E s) : Rf (RLp E eρ) (mPass env) (.ret (.go s)) := by rw [h]; exact Rf.ret rfl
theorem e_goXp {E : σ → DEnv} {s : σ} (h : env = E s) : Rf (RX E) (mPass env) (.ret s) := by rw [h]; exact Rf.ret (.inl rfl)
theorem e_goTp {E : σ → DEnv} {eρ : ρ → D} {s : σ} (h : env = E s) : Rf (RTn E eρ) (mPass env) (.ret (.go s)) := by rw [h]; exact Rf.ret (.inl rfl)
theorem r_andVP {a : Bool} {b : M Bool} (ha : ma env = .ret (eB a)) (hb : Ev eB (mb env) b) : Ev eB (mAndV ma mb env) (if a then b else .ret false) := by
  unfold mAndV; rw [ha]; cases a
  · exact Rf.ret rfl
  · exact hb
theorem r_orVP {a : Bool} {b : M Bool} (ha : ma env = .ret (eB a)) (hb : Ev eB (mb env) b) : Ev eB (mOrV ma mb env) (if a then .ret true else b) := by
  unfold mOrV; rw [ha]; cases a
  · exact hb
  · exact Rf.ret rfl
/-- the frame, written out -/
theorem s_env {R : γ → Fl × DEnv → Prop} {t : M γ} {ds : DS} {env env' : DEnv} (h : env = env') (k : Rf R (ds env') t) : Rf R (ds env) t := by rw [h]; exact k
/-- an own thing stands still from now on -/
theorem s_frzO {R : γ → Fl × DEnv → Prop} {t : M γ} {ds : DS} {env : DEnv} {i : Nat} {d : D} (hx : env[i]? = some (some (.own d))) (k : Rf R (ds (env.set i (some (.val d)))) t) : Rf R (mFrz i ds env) t := by
  unfold mFrz; rw [hx]; exact k
/-! ### by type, further -/
theorem q_OE {t : M (Option α)} (h : Ev (eO e) m' t) : Ev e m' (t >>= M.opt) := .of fun P z => h.run P (M.wp_mono (M.wp_bind.mp z) fun o z d r => by
  have r : d = eO e o := r
  subst r
  cases o with
  | none => exact z.elim
  | some a => exact z _ rfl)
def asLI : D → M (List Int)
  | .lst xs => M.opt (intsOf xs)
  | _ => .fail
theorem intsOf_map : ∀ {xs : List D} {is : List Int}, intsOf xs = some is → xs = is.map eI
  | [], is, h => by
    have h : some [] = some is := h
    cases h; rfl
  | x :: xs, is, h => by
    cases x with
    | int i =>
      have h' : (intsOf xs).map (i :: ·) = some is := h
      rw [Option.map_eq_some_iff] at h'
      obtain ⟨js, h1, rfl⟩ := h'
      rw [intsOf_map h1]; rfl
    | _ => cases h
theorem q_LI (d : D) : Ev (eL eI) (.ret d) (asLI d) := by
  cases d with
  | lst xs =>
    show Ev (eL eI) (.ret (.lst xs)) (M.opt (intsOf xs))
    cases h : intsOf xs with
    | none => exact Rf.fail
    | some is => exact Rf.ret (by rw [intsOf_map h]; rfl)
  | _ => exact Rf.fail
theorem r_chainE {op op' : D → D → M D} {mc : DE} {t : M α} {x z : D} {p q : α → Bool} (hx : ma env = .ret x) (hy : Ev e (mb env) t) (hz : mc env = .ret z) (h1 : ∀ v, op x (e v) = .ret (eB (p v))) (h2 : ∀ v, op' (e v) z = .ret (eB (q v))) :
    Ev eB (mChain op op' ma mb mc env) (t >>= fun v => .ret (p v && q v)) := by
  unfold mChain
  rw [hx]
  show Rf _ (mb env >>= fun y => op x y >>= asB >>= fun k => if k then mc env >>= fun z => op' y z else .ret (.bl false)) _
  refine x_bind hy fun v => ?_
  rw [h1]
  cases hp : p v with
  | true =>
    show Rf _ (mc env >>= fun z => op' (e v) z) _
    rw [hz]
    show Rf _ (op' (e v) z) _
    rw [h2]; exact Rf.ret rfl
  | false => exact Rf.ret rfl
end
end DL

set_option Elab.async false
set_option linter.all false
set_option maxRecDepth 100000
set_option maxHeartbeats 0
namespace K84
open PySem PySem.Spec L2 DL
open PyProof.Rows hiding St
/-! ### texts of the program -/
def s_all : Str := "all"
def s_some : Str := "some"
def s_apart : Str := "apart"
def s_swaps : Str := "swaps"
def s_swap : Str := "swap"
def s_other : Str := "other"
def s_names : Str := "names"
def s_pair : Str := "pair"
def tx_next : Str := "next"
def s_ahead : Str := "ahead"
def s_two : Str := "two"
def s_round : Str := "round"
def s_ring : Str := "ring"
def s_order : Str := "order"
def s_words : Str := "words"
def s_link : Str := "link"
def s_links : Str := "links"
def s_step : Str := "step"
def s_xyzw : Str := "xyzw"
/-! ### the defs of the text -/
def topS (i : Nat) : Stmt := PySem.Challenge.pw_wordkinds_k84_orders_that_say_the_same.main.body.getD i (.Pass ⟨0, 0, 0, 0⟩)
abbrev s_T_parting_pair : Stmt := topS 1
abbrev s_T_entails : Stmt := topS 2
abbrev s_T_swapped : Stmt := topS 3
abbrev s_T_entails_fault : Stmt := topS 4
abbrev s_T_are_alike : Stmt := topS 5
abbrev s_T_plain_form : Stmt := topS 6
abbrev s_T_orders_of : Stmt := topS 7
abbrev s_T_is_in : Stmt := topS 8
abbrev s_T_first_between : Stmt := topS 9
abbrev s_T_readings_of : Stmt := topS 10
abbrev s_T_two_nexts : Stmt := topS 12
abbrev s_T_next_of : Stmt := topS 13
abbrev s_T_round_of : Stmt := topS 14
abbrev s_T_blocks_of : Stmt := topS 15
abbrev s_T_block_with : Stmt := topS 16
abbrev s_T_ties_of : Stmt := topS 17
abbrev s_T_wrong_within : Stmt := topS 18
abbrev s_T_ordered : Stmt := topS 19
abbrev s_T_ring_of : Stmt := topS 20
abbrev s_T_ordered_fault : Stmt := topS 21
abbrev s_T_along : Stmt := topS 22
abbrev s_T_together : Stmt := topS 23
abbrev s_T_count_orders : Stmt := topS 24
abbrev s_T_law_state : Stmt := topS 26
abbrev s_T_law_take : Stmt := topS 27
abbrev s_T_law : Stmt := topS 28
abbrev N_parting_pair : List Str := ["one", "other", "at", "later", "word", "name"]
theorem sc_parting_pair : FnScope N_parting_pair ["one", "other"] (defScope s_T_parting_pair) := ⟨rfl, rfl, rfl, by decide +kernel, rfl, by decide +kernel, by decide +kernel⟩
abbrev N_entails : List Str := ["one", "other", "pair", "row", "places", "turning", "at"]
theorem sc_entails : FnScope N_entails ["one", "other"] (defScope s_T_entails) := ⟨rfl, rfl, rfl, by decide +kernel, rfl, by decide +kernel, by decide +kernel⟩
abbrev N_swapped : List Str := ["prefix", "place"]
theorem sc_swapped : FnScope N_swapped ["prefix", "place"] (defScope s_T_swapped) := ⟨rfl, rfl, rfl, by decide +kernel, rfl, by decide +kernel, by decide +kernel⟩
abbrev N_entails_fault : List Str := ["one", "other", "told", "pair", "right", "row", "at", "place"]
theorem sc_entails_fault : FnScope N_entails_fault ["one", "other", "told"] (defScope s_T_entails_fault) := ⟨rfl, rfl, rfl, by decide +kernel, rfl, by decide +kernel, by decide +kernel⟩
abbrev N_are_alike : List Str := ["one", "other"]
theorem sc_are_alike : FnScope N_are_alike ["one", "other"] (defScope s_T_are_alike) := ⟨rfl, rfl, rfl, by decide +kernel, rfl, by decide +kernel, by decide +kernel⟩
abbrev N_plain_form : List Str := ["prefix", "found", "at", "end"]
theorem sc_plain_form : FnScope N_plain_form ["prefix"] (defScope s_T_plain_form) := ⟨rfl, rfl, rfl, by decide +kernel, rfl, by decide +kernel, by decide +kernel⟩
abbrev N_orders_of : List Str := ["phrases", "hosts", "found", "_", "row", "at"]
theorem sc_orders_of : FnScope N_orders_of ["phrases", "hosts"] (defScope s_T_orders_of) := ⟨rfl, rfl, rfl, by decide +kernel, rfl, by decide +kernel, by decide +kernel⟩
abbrev N_is_in : List Str := ["hosts", "phrase", "host", "here"]
theorem sc_is_in : FnScope N_is_in ["hosts", "phrase", "host"] (defScope s_T_is_in) := ⟨rfl, rfl, rfl, by decide +kernel, rfl, by decide +kernel, by decide +kernel⟩
abbrev N_first_between : List Str := ["order", "hosts", "at", "phrase", "host", "other"]
theorem sc_first_between : FnScope N_first_between ["order", "hosts"] (defScope s_T_first_between) := ⟨rfl, rfl, rfl, by decide +kernel, rfl, by decide +kernel, by decide +kernel⟩
abbrev N_readings_of : List Str := ["phrases", "hosts", "counts", "order", "key", "at"]
theorem sc_readings_of : FnScope N_readings_of ["phrases", "hosts"] (defScope s_T_readings_of) := ⟨rfl, rfl, rfl, by decide +kernel, rfl, by decide +kernel, by decide +kernel⟩
abbrev N_two_nexts : List Str := ["links", "later", "early", "word", "one", "other"]
theorem sc_two_nexts : FnScope N_two_nexts ["links"] (defScope s_T_two_nexts) := ⟨rfl, rfl, rfl, by decide +kernel, rfl, by decide +kernel, by decide +kernel⟩
abbrev N_next_of : List Str := ["links", "word", "at", "kind", "one", "other"]
theorem sc_next_of : FnScope N_next_of ["links", "word"] (defScope s_T_next_of) := ⟨rfl, rfl, rfl, by decide +kernel, rfl, by decide +kernel, by decide +kernel⟩
abbrev N_round_of : List Str := ["links", "start", "kind", "one", "other", "row", "here"]
theorem sc_round_of : FnScope N_round_of ["links"] (defScope s_T_round_of) := ⟨rfl, rfl, rfl, by decide +kernel, rfl, by decide +kernel, by decide +kernel⟩
abbrev N_blocks_of : List Str := ["count", "links", "behind", "found", "word", "row", "kind", "one", "other"]
theorem sc_blocks_of : FnScope N_blocks_of ["count", "links"] (defScope s_T_blocks_of) := ⟨rfl, rfl, rfl, by decide +kernel, rfl, by decide +kernel, by decide +kernel⟩
abbrev N_block_with : List Str := ["blocks", "word", "at", "row"]
theorem sc_block_with : FnScope N_block_with ["blocks", "word"] (defScope s_T_block_with) := ⟨rfl, rfl, rfl, by decide +kernel, rfl, by decide +kernel, by decide +kernel⟩
abbrev N_ties_of : List Str := ["blocks", "links", "found", "at", "kind", "one", "other", "first", "second"]
theorem sc_ties_of : FnScope N_ties_of ["blocks", "links"] (defScope s_T_ties_of) := ⟨rfl, rfl, rfl, by decide +kernel, rfl, by decide +kernel, by decide +kernel⟩
abbrev N_wrong_within : List Str := ["blocks", "links", "at", "row", "kind", "one", "other"]
theorem sc_wrong_within : FnScope N_wrong_within ["blocks", "links"] (defScope s_T_wrong_within) := ⟨rfl, rfl, rfl, by decide +kernel, rfl, by decide +kernel, by decide +kernel⟩
abbrev N_ordered : List Str := ["count", "links", "two", "row", "blocks", "wrong", "ties", "left", "found", "free", "at", "first", "second", "link"]
theorem sc_ordered : FnScope N_ordered ["count", "links"] (defScope s_T_ordered) := ⟨rfl, rfl, rfl, by decide +kernel, rfl, by decide +kernel, by decide +kernel⟩
abbrev N_ring_of : List Str := ["ties", "left", "row", "links", "first", "link", "one", "two", "at"]
theorem sc_ring_of : FnScope N_ring_of ["ties", "left"] (defScope s_T_ring_of) := ⟨rfl, rfl, rfl, by decide +kernel, rfl, by decide +kernel, by decide +kernel⟩
abbrev N_ordered_fault : List Str := ["count", "links", "told", "row", "kind", "words", "place", "at", "before", "first", "second", "one", "other", "low", "high"]
theorem sc_ordered_fault : FnScope N_ordered_fault ["count", "links", "told"] (defScope s_T_ordered_fault) := ⟨rfl, rfl, rfl, by decide +kernel, rfl, by decide +kernel, by decide +kernel⟩
abbrev N_along : List Str := ["links", "word", "found", "at", "kind", "one", "two"]
theorem sc_along : FnScope N_along ["links", "word"] (defScope s_T_along) := ⟨rfl, rfl, rfl, by decide +kernel, rfl, by decide +kernel, by decide +kernel⟩
abbrev N_together : List Str := ["links", "word", "found", "at", "kind", "one", "two"]
theorem sc_together : FnScope N_together ["links", "word"] (defScope s_T_together) := ⟨rfl, rfl, rfl, by decide +kernel, rfl, by decide +kernel, by decide +kernel⟩
abbrev N_count_orders : List Str := ["count", "links", "blocks", "ties", "rows", "_", "more", "done", "number", "at", "key", "first", "second", "link"]
theorem sc_count_orders : FnScope N_count_orders ["count", "links"] (defScope s_T_count_orders) := ⟨rfl, rfl, rfl, by decide +kernel, rfl, by decide +kernel, by decide +kernel⟩
abbrev N_law : List Str := ["script", "state", "count", "phrases", "hosts", "orders", "order", "prefix", "k", "other", "rows", "told", "links", "fewer", "j", "alike", "below", "row", "phrase", "number"]
theorem sc_law : FnScope N_law ["script"] (defScope s_T_law) := ⟨rfl, rfl, rfl, by decide +kernel, rfl, by decide +kernel, by decide +kernel⟩
abbrev N_law_take : List Str := ["state", "most", "cells", "at", "cell", "mixed"]
theorem sc_law_take : FnScope N_law_take ["state", "most"] (defScope s_T_law_take) := ⟨rfl, rfl, rfl, by decide +kernel, rfl, by decide +kernel, by decide +kernel⟩
abbrev N_law_state : List Str := ["script", "cells", "cell"]
theorem sc_law_state : FnScope N_law_state ["script"] (defScope s_T_law_state) := ⟨rfl, rfl, rfl, by decide +kernel, rfl, by decide +kernel, by decide +kernel⟩
/-! ### the mirrors -/
def b_parting_pair (n : Nat) : DS := mForget [2, 3, 4, 5] (mSeq (mFor (iEnumD (mVar 0)) (gT 2 (gsCons (gV 2) (gsCons (gT 2 (gsCons (gV 4) (gsCons (gV 5) (gsNil)))) (gsNil)))) (mForget [3] (mSeq (mFor (iRg2 (mBin dAdd (mVarB 2) (mC (.int 1))) (mCall dLen (aCons (mVarB 0) (aNil)))) (gV 3) (mSeq (mIf (mAnd (mBinT dEq (mVarB 4) (mC (.str s_all))) (mAnd (mBinT dEq (mBin dIx (mBin dIx (mVarB 0) (mVarB 3)) (mC (.int 0))) (mC (.str s_some))) (mBinT dLt (mMeth dIndex (mVarB 1) (aCons (mBin dIx (mVarB 0) (mVarB 3)) aNil)) (mMeth dIndex (mVarB 1) (aCons (mBin dIx (mVarB 0) (mVarB 2)) aNil))))) (mRet (mTup (aCons (mVar 5) (aCons (mBin dIx (mBin dIx (mVarB 0) (mVarB 3)) (mC (.int 1))) (aNil))))) (mPass)) (mForget [3] mPass))) (mForget [2, 3, 4, 5] mPass)))) (mRet (mC .non)))
def f_parting_pair : Nat → List D → M D
  | 0 => fun _ => .fail
  | n + 1 => fnM 6 [false, true] (b_parting_pair n)
def b_entails (n : Nat) : DS := mSeq (mSetV 2 (mCall (f_parting_pair n) (aCons (mVar 0) (aCons (mVarB 1) (aNil))))) (mSeq (mIf (mBinT dIsNot (mVarB 2) (mC .non)) (mRet (mBin dAdd (mTup (aCons (mC (.str s_apart)) (aNil))) (mVarB 2))) (mPass)) (mSeq (mSetV 3 (mCall dList (aCons (mVarB 0) (aNil)))) (mSeq (mSetO 4 (mLst (aNil))) (mSeq (mSetV 5 (mC (.bl true))) (mForget [6] (mSeq (mWhile (mTru (mVarB 5)) (mSeq (mSetV 5 (mC (.bl false))) (mForget [6] (mSeq (mFor (iRg1 (mBin dSub (mCall dLen (aCons (mVarB 3) (aNil))) (mC (.int 1)))) (gV 6) (mSeq (mIf (mBinT dGt (mMeth dIndex (mVarB 1) (aCons (mBin dIx (mVarB 3) (mVarB 6)) aNil)) (mMeth dIndex (mVarB 1) (aCons (mBin dIx (mVarB 3) (mBin dAdd (mVarB 6) (mC (.int 1)))) aNil))) (mSeq (mSetV 3 (mBin dAdd (mBin dAdd (mSl dSl (mVarB 3) (oNone) (oSome (mVarB 6))) (mLst (aCons (mBin dIx (mVarB 3) (mBin dAdd (mVarB 6) (mC (.int 1)))) (aCons (mBin dIx (mVarB 3) (mVarB 6)) (aNil))))) (mSl dSl (mVarB 3) (oSome (mBin dAdd (mVarB 6) (mC (.int 2)))) (oNone)))) (mSeq (mAppend 4 (mVar 6)) (mSeq (mSetV 5 (mC (.bl true))) (mForget [] mPass)))) (mForget [] mPass)) (mForget [6] mPass))) (mForget [6] mPass)))) 100) (mFrz 4 (mRet (mTup (aCons (mC (.str s_swaps)) (aCons (mVar 4) (aNil))))))))))))
def f_entails : Nat → List D → M D
  | 0 => fun _ => .fail
  | n + 1 => fnM 7 [false, true] (b_entails n)
def b_swapped (n : Nat) : DS := mSeq (mIf (mOr (mNot (mTE (mChain dLe dLt (mC (.int 0)) (mVarB 1) (mBin dSub (mCall dLen (aCons (mVarB 0) (aNil))) (mC (.int 1)))))) (mAnd (mBinT dEq (mBin dIx (mBin dIx (mVarB 0) (mVarB 1)) (mC (.int 0))) (mC (.str s_all))) (mBinT dEq (mBin dIx (mBin dIx (mVarB 0) (mBin dAdd (mVarB 1) (mC (.int 1)))) (mC (.int 0))) (mC (.str s_some))))) (mRet (mC .non)) (mPass)) (mRet (mBin dAdd (mBin dAdd (mSl dSl (mVarB 0) (oNone) (oSome (mVarB 1))) (mLst (aCons (mBin dIx (mVarB 0) (mBin dAdd (mVarB 1) (mC (.int 1)))) (aCons (mBin dIx (mVarB 0) (mVarB 1)) (aNil))))) (mSl dSl (mVarB 0) (oSome (mBin dAdd (mVarB 1) (mC (.int 2)))) (oNone))))
def f_swapped : Nat → List D → M D
  | 0 => fun _ => .fail
  | n + 1 => fnM 2 [true, true] (b_swapped n)
def b_entails_fault (n : Nat) : DS := mSeq (mIf (mBinT dEq (mBin dIx (mVarB 2) (mC (.int 0))) (mC (.str s_swaps))) (mSeq (mSetV 5 (mCall dList (aCons (mVarB 0) (aNil)))) (mForget [6, 7] (mSeq (mFor (iEnumD (mBin dIx (mVarB 2) (mC (.int 1)))) (gT 2 (gsCons (gV 6) (gsCons (gV 7) (gsNil)))) (mSeq (mSetV 5 (mCall (f_swapped n) (aCons (mVarB 5) (aCons (mVarB 7) (aNil))))) (mSeq (mIf (mBinT dIs (mVarB 5) (mC .non)) (mRet (mTup (aCons (mC (.str s_swap)) (aCons (mVar 6) (aNil))))) (mPass)) (mForget [6, 7] mPass)))) (mRet (mIfE (mBinT dEq (mVarB 5) (mVarB 1)) (mC .non) (mTup (aCons (mC (.str s_other)) (aNil)))))))) (mForget [5, 6, 7] mPass)) (mSeq (mSetV 3 (mTup (aCons (mTup (aCons (mC (.str s_all)) (aCons (mBin dIx (mVarB 2) (mC (.int 1))) (aNil)))) (aCons (mTup (aCons (mC (.str s_some)) (aCons (mBin dIx (mVarB 2) (mC (.int 2))) (aNil)))) (aNil))))) (mSeq (mIf (mOr (mBinT dNotInX (mBin dIx (mVarB 3) (mC (.int 0))) (mVarB 0)) (mBinT dNotInX (mBin dIx (mVarB 3) (mC (.int 1))) (mVarB 0))) (mRet (mTup (aCons (mC (.str s_names)) (aNil)))) (mPass)) (mSeq (mSetV 4 (mAndV (mBin dLt (mMeth dIndex (mVarB 0) (aCons (mBin dIx (mVarB 3) (mC (.int 0))) aNil)) (mMeth dIndex (mVarB 0) (aCons (mBin dIx (mVarB 3) (mC (.int 1))) aNil))) (mBin dLt (mMeth dIndex (mVarB 1) (aCons (mBin dIx (mVarB 3) (mC (.int 1))) aNil)) (mMeth dIndex (mVarB 1) (aCons (mBin dIx (mVarB 3) (mC (.int 0))) aNil))))) (mRet (mIfE (mTru (mVarB 4)) (mC .non) (mTup (aCons (mC (.str s_pair)) (aNil))))))))
def f_entails_fault : Nat → List D → M D
  | 0 => fun _ => .fail
  | n + 1 => fnM 8 [true, true, true] (b_entails_fault n)
def b_are_alike (n : Nat) : DS := mRet (mAndV (mBin dIs (mCall (f_parting_pair n) (aCons (mVar 0) (aCons (mVarB 1) (aNil)))) (mC .non)) (mBin dIs (mCall (f_parting_pair n) (aCons (mVar 1) (aCons (mVarB 0) (aNil)))) (mC .non)))
def f_are_alike : Nat → List D → M D
  | 0 => fun _ => .fail
  | n + 1 => fnM 2 [false, false] (b_are_alike n)
def b_plain_form (n : Nat) : DS := mSeq (mSetV 1 (mLst (aNil))) (mSeq (mSetV 2 (mC (.int 0))) (mForget [3] (mSeq (mWhile (mBinT dLt (mVarB 2) (mCall dLen (aCons (mVarB 0) (aNil)))) (mSeq (mSetV 3 (mVar 2)) (mSeq (mWhile (mAnd (mBinT dLt (mVarB 3) (mCall dLen (aCons (mVarB 0) (aNil)))) (mBinT dEq (mBin dIx (mBin dIx (mVarB 0) (mVarB 3)) (mC (.int 0))) (mBin dIx (mBin dIx (mVarB 0) (mVarB 2)) (mC (.int 0))))) (mSeq (mSetV 3 (mBin dAdd (mVarB 3) (mC (.int 1)))) (mForget [] mPass)) 100) (mSeq (mSetV 1 (mBin dAdd (mVarB 1) (mCall dSorted (aCons (mSl dSl (mVarB 0) (oSome (mVarB 2)) (oSome (mVarB 3))) (aNil))))) (mSeq (mSetV 2 (mVar 3)) (mForget [3] mPass))))) 100) (mRet (mVar 1)))))
def f_plain_form : Nat → List D → M D
  | 0 => fun _ => .fail
  | n + 1 => fnM 4 [true] (b_plain_form n)
def b_is_in (n : Nat) : DS := mSeq (mSetV 3 (mBin dIx (mVarB 0) (mVarB 1))) (mSeq (mWhile (mAnd (mBinT dIsNot (mVarB 3) (mC .non)) (mBinT dNe (mVarB 3) (mVarB 2))) (mSeq (mSetV 3 (mBin dIx (mVarB 0) (mVarB 3))) (mForget [] mPass)) 100) (mRet (mBin dIsNot (mVarB 3) (mC .non))))
def f_is_in : Nat → List D → M D
  | 0 => fun _ => .fail
  | n + 1 => fnM 4 [true, true, true] (b_is_in n)
def b_first_between (n : Nat) : DS := mForget [2, 3, 4, 5] (mSeq (mFor (iEnumD (mVar 0)) (gT 2 (gsCons (gV 2) (gsCons (gV 3) (gsNil)))) (mSeq (mSetV 4 (mBin dIx (mVarB 1) (mVarB 3))) (mSeq (mIf (mBinT dInX (mVarB 4) (mSl dSl (mVarB 0) (oNone) (oSome (mVarB 2)))) (mForget [5] (mSeq (mFor (iOver (mSl dSl (mVarB 0) (oSome (mBin dAdd (mMeth dIndex (mVarB 0) (aCons (mVarB 4) aNil)) (mC (.int 1)))) (oSome (mVarB 2)))) (gV 5) (mSeq (mIf (mNot (mTru (mCall (f_is_in n) (aCons (mVarB 1) (aCons (mVarB 5) (aCons (mVarB 4) (aNil))))))) (mRet (mTup (aCons (mVar 4) (aCons (mVar 5) (aCons (mVar 3) (aNil)))))) (mPass)) (mForget [5] mPass))) (mForget [5] mPass))) (mForget [5] mPass)) (mForget [2, 3, 4, 5] mPass)))) (mRet (mC .non)))
def f_first_between : Nat → List D → M D
  | 0 => fun _ => .fail
  | n + 1 => fnM 6 [false, true] (b_first_between n)
def b_orders_of (n : Nat) : DS := mSeq (mSetV 2 (mLst (aCons (mLst (aNil)) (aNil)))) (mForget [3] (mSeq (mFor (iOver (mVar 0)) (gV 3) (mSeq (mSetV 2 (mLc2 [4, 5] [5] (iOver (mVarB 2)) (gV 4) (mYes) (iRg1 (mCall dLen (aCons (mVarB 0) (aNil)))) (gV 5) (mBinT dNotInX (mVarB 5) (mVarB 4)) (mBin dAdd (mVarB 4) (mLst (aCons (mVar 5) (aNil)))))) (mForget [3] mPass))) (mRet (mLc [4] (iOver (mVarB 2)) (gV 4) (mBinT dIs (mCall (f_first_between n) (aCons (mVar 4) (aCons (mVarB 1) (aNil)))) (mC .non)) (mVar 4)))))
def f_orders_of : Nat → List D → M D
  | 0 => fun _ => .fail
  | n + 1 => fnM 6 [false, true] (b_orders_of n)
def b_readings_of (n : Nat) : DS := mSeq (mSetO 2 (mNewN)) (mForget [3, 4] (mSeq (mFor (iOver (mCall (f_orders_of n) (aCons (mVar 0) (aCons (mVarB 1) (aNil))))) (gV 3) (mSeq (mSetV 4 (mCall dTuple (aCons (mCall (f_plain_form n) (aCons (mLc [5] (iOver (mVarB 3)) (gV 5) (mYes) (mBin dIx (mVarB 0) (mVarB 5))) (aNil))) (aNil)))) (mSeq (mPutN 2 (mVarB 4) (mBin dAdd (mGetN (mVarB 2) (mVarB 4) (mC (.int 0))) (mC (.int 1)))) (mForget [3, 4] mPass)))) (mRet (mLc [4] (iOver (mCall dSortedN (aCons (mVarB 2) (aNil)))) (gV 4) (mYes) (mTup (aCons (mCall dList (aCons (mVarB 4) (aNil))) (aCons (mBin dIxN (mVarB 2) (mVarB 4)) (aNil))))))))
def f_readings_of : Nat → List D → M D
  | 0 => fun _ => .fail
  | n + 1 => fnM 6 [false, true] (b_readings_of n)
def b_two_nexts (n : Nat) : DS := mForget [1, 2, 3, 4, 5] (mSeq (mFor (iEnumD (mVar 0)) (gT 2 (gsCons (gV 1) (gsCons (gT 3 (gsCons (gV 3) (gsCons (gV 4) (gsCons (gV 5) (gsNil))))) (gsNil)))) (mForget [2] (mSeq (mFor (iRg1 (mVarB 1)) (gV 2) (mSeq (mIf (mAnd (mBinT dEq (mVarB 3) (mC (.str tx_next))) (mBinT dEq (mBin dIx (mBin dIx (mVarB 0) (mVarB 2)) (mC (.int 0))) (mC (.str tx_next)))) (mIf (mBinT dNe (mBin dEq (mBin dIx (mBin dIx (mVarB 0) (mVarB 2)) (mC (.int 1))) (mVarB 4)) (mBin dEq (mBin dIx (mBin dIx (mVarB 0) (mVarB 2)) (mC (.int 2))) (mVarB 5))) (mRet (mTup (aCons (mVar 2) (aCons (mVar 1) (aNil))))) (mPass)) (mPass)) (mForget [2] mPass))) (mForget [1, 2, 3, 4, 5] mPass)))) (mRet (mC .non)))
def f_two_nexts : Nat → List D → M D
  | 0 => fun _ => .fail
  | n + 1 => fnM 6 [false] (b_two_nexts n)
def b_next_of (n : Nat) : DS := mForget [2, 3, 4, 5] (mSeq (mFor (iEnumD (mVar 0)) (gT 2 (gsCons (gV 2) (gsCons (gT 3 (gsCons (gV 3) (gsCons (gV 4) (gsCons (gV 5) (gsNil))))) (gsNil)))) (mSeq (mIf (mAnd (mBinT dEq (mVarB 3) (mC (.str tx_next))) (mBinT dEq (mVarB 4) (mVarB 1))) (mRet (mVar 2)) (mPass)) (mForget [2, 3, 4, 5] mPass))) (mRet (mC .non)))
def f_next_of : Nat → List D → M D
  | 0 => fun _ => .fail
  | n + 1 => fnM 6 [false, true] (b_next_of n)
def b_round_of (n : Nat) : DS := mForget [1, 2, 3, 4, 5, 6] (mSeq (mFor (iEnumD (mVar 0)) (gT 2 (gsCons (gV 1) (gsCons (gT 3 (gsCons (gV 2) (gsCons (gV 3) (gsCons (gV 4) (gsNil))))) (gsNil)))) (mSeq (mIf (mBinT dEq (mVarB 2) (mC (.str tx_next))) (mSeq (mSetO 5 (mLst (aCons (mVar 1) (aNil)))) (mSeq (mSetV 6 (mVar 4)) (mSeq (mWhile (mAnd (mBinT dNe (mVarB 6) (mVarB 3)) (mAnd (mBinT dIsNot (mCall (f_next_of n) (aCons (mVar 0) (aCons (mVarB 6) (aNil)))) (mC .non)) (mBinT dNotInX (mCall (f_next_of n) (aCons (mVar 0) (aCons (mVarB 6) (aNil)))) (mVarB 5)))) (mSeq (mAppend 5 (mCall (f_next_of n) (aCons (mVar 0) (aCons (mVarB 6) (aNil))))) (mSeq (mSetV 6 (mBin dIx (mBin dIx (mVarB 0) (mBin dIx (mVarB 5) (mNeg (mC (.int 1))))) (mC (.int 2)))) (mForget [] mPass))) 100) (mSeq (mIf (mBinT dEq (mVarB 6) (mVarB 3)) (mFrz 5 (mRet (mVar 5))) (mPass)) (mForget [5, 6] mPass))))) (mForget [5, 6] mPass)) (mForget [1, 2, 3, 4, 5, 6] mPass))) (mRet (mC .non)))
def f_round_of : Nat → List D → M D
  | 0 => fun _ => .fail
  | n + 1 => fnM 7 [false] (b_round_of n)
def b_blocks_of (n : Nat) : DS := mSeq (mSetV 2 (mLc [6, 7, 8] (iOver (mVarB 1)) (gT 3 (gsCons (gV 6) (gsCons (gV 7) (gsCons (gV 8) (gsNil))))) (mBinT dEq (mVarB 6) (mC (.str tx_next))) (mVar 8))) (mSeq (mSetO 3 (mLst (aNil))) (mForget [4, 5] (mSeq (mFor (iRg1 (mVarB 0)) (gV 4) (mSeq (mIf (mBinT dNotInX (mVarB 4) (mVarB 2)) (mSeq (mSetO 5 (mLst (aCons (mVar 4) (aNil)))) (mSeq (mWhile (mBinT dIsNot (mCall (f_next_of n) (aCons (mVar 1) (aCons (mBin dIx (mVarB 5) (mNeg (mC (.int 1)))) (aNil)))) (mC .non)) (mSeq (mAppend 5 (mBin dIx (mBin dIx (mVarB 1) (mCall (f_next_of n) (aCons (mVar 1) (aCons (mBin dIx (mVarB 5) (mNeg (mC (.int 1)))) (aNil))))) (mC (.int 2)))) (mForget [] mPass)) 100) (mFrz 5 (mSeq (mAppend 3 (mVar 5)) (mForget [5] mPass))))) (mForget [5] mPass)) (mForget [4, 5] mPass))) (mFrz 3 (mRet (mVar 3))))))
def f_blocks_of : Nat → List D → M D
  | 0 => fun _ => .fail
  | n + 1 => fnM 9 [true, false] (b_blocks_of n)
def b_block_with (n : Nat) : DS := mRet (mBin dIx (mLc [2, 3] (iEnumD (mVarB 0)) (gT 2 (gsCons (gV 2) (gsCons (gV 3) (gsNil)))) (mBinT dInX (mVarB 1) (mVarB 3)) (mVar 2)) (mC (.int 0)))
def f_block_with : Nat → List D → M D
  | 0 => fun _ => .fail
  | n + 1 => fnM 4 [true, true] (b_block_with n)
def b_ties_of (n : Nat) : DS := mSeq (mSetO 2 (mLst (aNil))) (mForget [3, 4, 5, 6, 7, 8] (mSeq (mFor (iEnumD (mVar 1)) (gT 2 (gsCons (gV 3) (gsCons (gT 3 (gsCons (gV 4) (gsCons (gV 5) (gsCons (gV 6) (gsNil))))) (gsNil)))) (mSeq (mPar 7 8 (aCons (mCall (f_block_with n) (aCons (mVarB 0) (aCons (mVarB 5) (aNil)))) (aCons (mCall (f_block_with n) (aCons (mVarB 0) (aCons (mVarB 6) (aNil)))) (aNil)))) (mSeq (mIf (mAnd (mBinT dEq (mVarB 4) (mC (.str s_ahead))) (mBinT dNe (mVarB 7) (mVarB 8))) (mSeq (mAppend 2 (mTup (aCons (mVar 7) (aCons (mVar 8) (aCons (mVar 3) (aNil)))))) (mForget [] mPass)) (mForget [] mPass)) (mForget [3, 4, 5, 6, 7, 8] mPass)))) (mFrz 2 (mRet (mVar 2)))))
def f_ties_of : Nat → List D → M D
  | 0 => fun _ => .fail
  | n + 1 => fnM 9 [true, false] (b_ties_of n)
def b_wrong_within (n : Nat) : DS := mForget [2, 3, 4, 5, 6] (mSeq (mFor (iEnumD (mVar 1)) (gT 2 (gsCons (gV 2) (gsCons (gT 3 (gsCons (gV 4) (gsCons (gV 5) (gsCons (gV 6) (gsNil))))) (gsNil)))) (mSeq (mSetV 3 (mBin dIx (mVarB 0) (mCall (f_block_with n) (aCons (mVarB 0) (aCons (mVarB 5) (aNil)))))) (mSeq (mIf (mAnd (mBinT dEq (mVarB 4) (mC (.str s_ahead))) (mAnd (mBinT dInX (mVarB 6) (mVarB 3)) (mBinT dGe (mMeth dIndex (mVarB 3) (aCons (mVarB 5) aNil)) (mMeth dIndex (mVarB 3) (aCons (mVarB 6) aNil))))) (mRet (mVar 2)) (mPass)) (mForget [2, 3, 4, 5, 6] mPass)))) (mRet (mC .non)))
def f_wrong_within : Nat → List D → M D
  | 0 => fun _ => .fail
  | n + 1 => fnM 7 [true, false] (b_wrong_within n)
def b_ring_of (n : Nat) : DS := mSeq (mSetO 2 (mLst (aCons (mBin dIx (mVarB 1) (mC (.int 0))) (aNil)))) (mSeq (mSetO 3 (mLst (aNil))) (mForget [4, 5] (mSeq (mWhile (mBinT dNotInX (mBin dIx (mVarB 2) (mNeg (mC (.int 1)))) (mSl dSl (mVarB 2) (oNone) (oSome (mNeg (mC (.int 1)))))) (mSeq (mAsg (gT 2 (gsCons (gV 4) (gsCons (gV 5) (gsNil)))) (mBin dIx (mLc [6, 7, 8] (iOver (mVarB 0)) (gT 3 (gsCons (gV 6) (gsCons (gV 7) (gsCons (gV 8) (gsNil))))) (mAnd (mBinT dEq (mVarB 7) (mBin dIx (mVarB 2) (mNeg (mC (.int 1))))) (mBinT dInX (mVarB 6) (mVarB 1))) (mTup (aCons (mVar 6) (aCons (mVar 8) (aNil))))) (mC (.int 0)))) (mSeq (mAppend 2 (mVar 4)) (mSeq (mAppend 3 (mVar 5)) (mForget [4, 5] mPass)))) 100) (mRet (mRev (mSl dSl (mVarB 3) (oSome (mMeth dIndex (mVarB 2) (aCons (mBin dIx (mVarB 2) (mNeg (mC (.int 1)))) aNil))) (oNone)))))))
def f_ring_of : Nat → List D → M D
  | 0 => fun _ => .fail
  | n + 1 => fnM 9 [true, true] (b_ring_of n)
def b_ordered (n : Nat) : DS := mSeq (mSetV 2 (mCall (f_two_nexts n) (aCons (mVar 1) (aNil)))) (mSeq (mIf (mBinT dIsNot (mVarB 2) (mC .non)) (mRet (mBin dAdd (mTup (aCons (mC (.str s_two)) (aNil))) (mVarB 2))) (mPass)) (mSeq (mSetV 3 (mCall (f_round_of n) (aCons (mVar 1) (aNil)))) (mSeq (mIf (mBinT dIsNot (mVarB 3) (mC .non)) (mRet (mTup (aCons (mC (.str s_round)) (aCons (mVar 3) (aNil))))) (mPass)) (mSeq (mSetV 4 (mCall (f_blocks_of n) (aCons (mVarB 0) (aCons (mVar 1) (aNil))))) (mSeq (mSetV 5 (mCall (f_wrong_within n) (aCons (mVarB 4) (aCons (mVar 1) (aNil))))) (mSeq (mIf (mBinT dIsNot (mVarB 5) (mC .non)) (mRet (mTup (aCons (mC (.str s_ring)) (aCons (mLst (aCons (mVar 5) (aNil))) (aNil))))) (mPass)) (mSeq (mSetV 6 (mCall (f_ties_of n) (aCons (mVarB 4) (aCons (mVar 1) (aNil))))) (mSeq (mSetV 7 (mRgL1 .lst (mCall dLen (aCons (mVarB 4) (aNil))))) (mSeq (mSetV 8 (mLst (aNil))) (mForget [9] (mSeq (mWhile (mTru (mVarB 7)) (mSeq (mSetV 9 (mLc [10] (iOver (mVarB 7)) (gV 10) (mNot (mTru (mCall dAny (aCons (mLc [11, 12, 13] (iOver (mVarB 6)) (gT 3 (gsCons (gV 11) (gsCons (gV 12) (gsCons (gV 13) (gsNil))))) (mYes) (mAndV (mBin dEq (mVarB 12) (mVarB 10)) (mBin dInX (mVarB 11) (mVarB 7)))) (aNil))))) (mVar 10))) (mSeq (mIf (mNot (mTru (mVarB 9))) (mRet (mTup (aCons (mC (.str s_ring)) (aCons (mCall (f_ring_of n) (aCons (mVarB 6) (aCons (mVarB 7) (aNil)))) (aNil))))) (mPass)) (mSeq (mSetV 8 (mBin dAdd (mVarB 8) (mBin dIx (mVarB 4) (mBin dIx (mVarB 9) (mC (.int 0)))))) (mSeq (mSetV 7 (mLc [10] (iOver (mVarB 7)) (gV 10) (mBinT dNe (mVarB 10) (mBin dIx (mVarB 9) (mC (.int 0)))) (mVar 10))) (mForget [9] mPass))))) 100) (mRet (mTup (aCons (mC (.str s_order)) (aCons (mVar 8) (aNil))))))))))))))))
def f_ordered : Nat → List D → M D
  | 0 => fun _ => .fail
  | n + 1 => fnM 14 [true, false] (b_ordered n)
def b_along (n : Nat) : DS := mSeq (mSetO 2 (mLst (aCons (mVar 1) (aNil)))) (mSeq (mSetV 3 (mC (.int 0))) (mSeq (mWhile (mBinT dLt (mVarB 3) (mCall dLen (aCons (mVarB 2) (aNil)))) (mSeq (mExtend 2 (mLc [4, 5, 6] (iOver (mVarB 0)) (gT 3 (gsCons (gV 4) (gsCons (gV 5) (gsCons (gV 6) (gsNil))))) (mAnd (mBinT dEq (mVarB 4) (mC (.str tx_next))) (mAnd (mBinT dEq (mVarB 5) (mBin dIx (mVarB 2) (mVarB 3))) (mBinT dNotInX (mVarB 6) (mVarB 2)))) (mVar 6))) (mSeq (mSetV 3 (mBin dAdd (mVarB 3) (mC (.int 1)))) (mForget [] mPass))) 100) (mFrz 2 (mRet (mVar 2)))))
def f_along : Nat → List D → M D
  | 0 => fun _ => .fail
  | n + 1 => fnM 7 [true, false] (b_along n)
def b_together (n : Nat) : DS := mSeq (mSetO 2 (mLst (aCons (mVar 1) (aNil)))) (mSeq (mSetV 3 (mC (.int 0))) (mSeq (mWhile (mBinT dLt (mVarB 3) (mCall dLen (aCons (mVarB 2) (aNil)))) (mSeq (mExtend 2 (mLc [4, 5, 6] (iOver (mVarB 0)) (gT 3 (gsCons (gV 4) (gsCons (gV 5) (gsCons (gV 6) (gsNil))))) (mAnd (mBinT dEq (mVarB 4) (mC (.str tx_next))) (mAnd (mBinT dEq (mVarB 5) (mBin dIx (mVarB 2) (mVarB 3))) (mBinT dNotInX (mVarB 6) (mVarB 2)))) (mVar 6))) (mSeq (mExtend 2 (mLc [4, 5, 6] (iOver (mVarB 0)) (gT 3 (gsCons (gV 4) (gsCons (gV 5) (gsCons (gV 6) (gsNil))))) (mAnd (mBinT dEq (mVarB 4) (mC (.str tx_next))) (mAnd (mBinT dEq (mVarB 6) (mBin dIx (mVarB 2) (mVarB 3))) (mBinT dNotInX (mVarB 5) (mVarB 2)))) (mVar 5))) (mSeq (mSetV 3 (mBin dAdd (mVarB 3) (mC (.int 1)))) (mForget [] mPass)))) 100) (mFrz 2 (mRet (mVar 2)))))
def f_together : Nat → List D → M D
  | 0 => fun _ => .fail
  | n + 1 => fnM 7 [true, false] (b_together n)
def b_ordered_fault (n : Nat) : DS := mSeq (mIf (mBinT dEq (mBin dIx (mVarB 2) (mC (.int 0))) (mC (.str s_order))) (mSeq (mSetV 5 (mBin dIx (mVarB 2) (mC (.int 1)))) (mSeq (mIf (mBinT dNe (mCall dSorted (aCons (mVarB 5) (aNil))) (mRgL1 .lst (mVarB 0))) (mRet (mTup (aCons (mC (.str s_words)) (aNil)))) (mPass)) (mForget [4, 7, 11, 12, 13, 14] (mSeq (mFor (iEnumD (mVar 1)) (gT 2 (gsCons (gV 7) (gsCons (gT 3 (gsCons (gV 4) (gsCons (gV 11) (gsCons (gV 12) (gsNil))))) (gsNil)))) (mSeq (mPar 13 14 (aCons (mMeth dIndex (mVarB 5) (aCons (mVarB 11) aNil)) (aCons (mMeth dIndex (mVarB 5) (aCons (mVarB 12) aNil)) (aNil)))) (mSeq (mIf (mOr (mBinT dGe (mVarB 13) (mVarB 14)) (mAnd (mBinT dEq (mVarB 4) (mC (.str tx_next))) (mBinT dNe (mVarB 14) (mBin dAdd (mVarB 13) (mC (.int 1)))))) (mRet (mTup (aCons (mC (.str s_link)) (aCons (mVar 7) (aNil))))) (mPass)) (mForget [4, 7, 11, 12, 13, 14] mPass)))) (mRet (mC .non)))))) (mForget [4, 5, 7, 11, 12, 13, 14] mPass)) (mSeq (mIf (mBinT dEq (mBin dIx (mVarB 2) (mC (.int 0))) (mC (.str s_two))) (mSeq (mIf (mNot (mTru (mCall dAll (aCons (mLc [7] (iOver (mSl dSl (mVarB 2) (oSome (mC (.int 1))) (oNone))) (gV 7) (mYes) (mAndV (mChain dLe dLt (mC (.int 0)) (mVarB 7) (mCall dLen (aCons (mVarB 1) (aNil)))) (mBin dEq (mBin dIx (mBin dIx (mVarB 1) (mVarB 7)) (mC (.int 0))) (mC (.str tx_next))))) (aNil))))) (mRet (mTup (aCons (mC (.str s_links)) (aNil)))) (mPass)) (mSeq (mPar 9 10 (aCons (mBin dIx (mVarB 1) (mBin dIx (mVarB 2) (mC (.int 1)))) (aCons (mBin dIx (mVarB 1) (mBin dIx (mVarB 2) (mC (.int 2)))) (aNil)))) (mRet (mIfE (mBinT dNe (mBin dEq (mBin dIx (mVarB 9) (mC (.int 1))) (mBin dIx (mVarB 10) (mC (.int 1)))) (mBin dEq (mBin dIx (mVarB 9) (mC (.int 2))) (mBin dIx (mVarB 10) (mC (.int 2))))) (mC .non) (mTup (aCons (mC (.str s_links)) (aNil))))))) (mForget [9, 10] mPass)) (mSeq (mSetV 3 (mBin dIx (mVarB 2) (mC (.int 1)))) (mSeq (mSetV 4 (mIfE (mBinT dEq (mBin dIx (mVarB 2) (mC (.int 0))) (mC (.str s_round))) (mC (.str tx_next)) (mC (.str s_ahead)))) (mSeq (mIf (mOr (mNot (mTru (mVarB 3))) (mNot (mTru (mCall dAll (aCons (mLc [7] (iOver (mVarB 3)) (gV 7) (mYes) (mAndV (mChain dLe dLt (mC (.int 0)) (mVarB 7) (mCall dLen (aCons (mVarB 1) (aNil)))) (mBin dEq (mBin dIx (mBin dIx (mVarB 1) (mVarB 7)) (mC (.int 0))) (mVarB 4)))) (aNil)))))) (mRet (mTup (aCons (mC (.str s_links)) (aNil)))) (mPass)) (mSeq (mIf (mAnd (mBinT dEq (mBin dIx (mVarB 2) (mC (.int 0))) (mC (.str s_ring))) (mBinT dEq (mCall dLen (aCons (mVarB 3) (aNil))) (mC (.int 1)))) (mRet (mIfE (mBinT dInX (mBin dIx (mBin dIx (mVarB 1) (mBin dIx (mVarB 3) (mC (.int 0)))) (mC (.int 1))) (mCall (f_along n) (aCons (mVarB 1) (aCons (mBin dIx (mBin dIx (mVarB 1) (mBin dIx (mVarB 3) (mC (.int 0)))) (mC (.int 2))) (aNil))))) (mC .non) (mTup (aCons (mC (.str s_step)) (aCons (mC (.int 0)) (aNil)))))) (mPass)) (mForget [6, 7, 8] (mSeq (mFor (iEnumD (mVar 3)) (gT 2 (gsCons (gV 6) (gsCons (gV 7) (gsNil)))) (mSeq (mSetV 8 (mBin dIx (mBin dIx (mVarB 1) (mBin dIx (mVarB 3) (mBin dSub (mVarB 6) (mC (.int 1))))) (mC (.int 2)))) (mSeq (mIf (mAnd (mBinT dEq (mBin dIx (mVarB 2) (mC (.int 0))) (mC (.str s_round))) (mBinT dNe (mVarB 8) (mBin dIx (mBin dIx (mVarB 1) (mVarB 7)) (mC (.int 1))))) (mRet (mTup (aCons (mC (.str s_step)) (aCons (mVar 6) (aNil))))) (mPass)) (mSeq (mIf (mAnd (mBinT dEq (mBin dIx (mVarB 2) (mC (.int 0))) (mC (.str s_ring))) (mBinT dInX (mBin dIx (mBin dIx (mVarB 1) (mVarB 7)) (mC (.int 2))) (mCall (f_together n) (aCons (mVarB 1) (aCons (mBin dIx (mBin dIx (mVarB 1) (mVarB 7)) (mC (.int 1))) (aNil)))))) (mRet (mTup (aCons (mC (.str s_step)) (aCons (mVar 6) (aNil))))) (mPass)) (mSeq (mIf (mAnd (mBinT dEq (mBin dIx (mVarB 2) (mC (.int 0))) (mC (.str s_ring))) (mBinT dNotInX (mBin dIx (mBin dIx (mVarB 1) (mVarB 7)) (mC (.int 1))) (mCall (f_together n) (aCons (mVarB 1) (aCons (mVar 8) (aNil)))))) (mRet (mTup (aCons (mC (.str s_step)) (aCons (mVar 6) (aNil))))) (mPass)) (mForget [6, 7, 8] mPass)))))) (mRet (mC .non)))))))))
def f_ordered_fault : Nat → List D → M D
  | 0 => fun _ => .fail
  | n + 1 => fnM 15 [true, false, true] (b_ordered_fault n)
def b_count_orders (n : Nat) : DS := mSeq (mIf (mBinT dNe (mBin dIx (mCall (f_ordered n) (aCons (mVarB 0) (aCons (mVar 1) (aNil)))) (mC (.int 0))) (mC (.str s_order))) (mRet (mC (.int 0))) (mPass)) (mSeq (mSetV 2 (mCall (f_blocks_of n) (aCons (mVarB 0) (aCons (mVar 1) (aNil))))) (mSeq (mSetV 3 (mCall (f_ties_of n) (aCons (mVarB 2) (aCons (mVar 1) (aNil))))) (mSeq (mSetV 4 (mDispN (mTup (aNil)) (mC (.int 1)))) (mForget [5, 6, 7, 8, 9, 10] (mSeq (mFor (iOver (mVar 2)) (gV 5) (mSeq (mSetO 6 (mNewN)) (mForget [7, 8, 9, 10] (mSeq (mFor (iItemsN (mVar 4)) (gT 2 (gsCons (gV 7) (gsCons (gV 8) (gsNil)))) (mForget [9, 10] (mSeq (mFor (iRg1 (mCall dLen (aCons (mVarB 2) (aNil)))) (gV 9) (mSeq (mIf (mAnd (mBinT dNotInX (mVarB 9) (mVarB 7)) (mTru (mCall dAll (aCons (mLc [11, 12, 13] (iOver (mVarB 3)) (gT 3 (gsCons (gV 11) (gsCons (gV 12) (gsCons (gV 13) (gsNil))))) (mBinT dEq (mVarB 12) (mVarB 9)) (mBin dInX (mVarB 11) (mVarB 7))) (aNil))))) (mSeq (mSetV 10 (mCall dTuple (aCons (mCall dSortedX (aCons (mBin dAdd (mVarB 7) (mTup (aCons (mVar 9) (aNil)))) (aNil))) (aNil)))) (mSeq (mPutN 6 (mVarB 10) (mBin dAdd (mGetN (mVarB 6) (mVarB 10) (mC (.int 0))) (mVarB 8))) (mForget [10] mPass))) (mForget [10] mPass)) (mForget [9, 10] mPass))) (mForget [7, 8, 9, 10] mPass)))) (mFrz 6 (mSeq (mSetV 4 (mVar 6)) (mForget [5, 6, 7, 8, 9, 10] mPass))))))) (mRet (mCall dSum (aCons (mLc [10] (iKeysN (mVar 4)) (gV 10) (mYes) (mBin dIxN (mVarB 4) (mVarB 10))) (aNil)))))))))
def f_count_orders : Nat → List D → M D
  | 0 => fun _ => .fail
  | n + 1 => fnM 14 [true, false] (b_count_orders n)
def law_s15 (n : Nat) : DS := mRet (mCall (f_are_alike n) (aCons (mLc [8] (iOver (mBin dIx (mVarB 11) (mC (.int 1)))) (gV 8) (mYes) (mBin dIx (mVarB 3) (mVarB 8))) (aCons (mVar 7) (aNil))))
def law_r15 (n : Nat) : DS := (law_s15 n)
def law_s14 (n : Nat) : DS := mIf (mOr (mBinT dNe (mBin dIx (mVarB 11) (mC (.int 0))) (mC (.str s_order))) (mOr (mBinT dIsNot (mCall (f_ordered_fault n) (aCons (mVarB 2) (aCons (mVar 12) (aCons (mVarB 11) (aNil))))) (mC .non)) (mBinT dIsNot (mCall (f_ordered_fault n) (aCons (mVarB 2) (aCons (mVar 12) (aCons (mTup (aCons (mC (.str s_order)) (aCons (mVar 6) (aNil)))) (aNil))))) (mC .non)))) (mRet (mC (.bl false))) (mPass)
def law_r14 (n : Nat) : DS := mFrz 12 (mSeq (law_s14 n) ((law_r15 n)))
def law_s13 (n : Nat) : DS := mSetV 11 (mCall (f_ordered n) (aCons (mVarB 2) (aCons (mVar 12) (aNil))))
def law_r13 (n : Nat) : DS := mFrz 12 (mSeq (law_s13 n) ((law_r14 n)))
def law_s12 (n : Nat) : DS := mIf (mOr (mBinT dNe (mCall dSum (aCons (mLc [17, 19] (iOver (mVarB 10)) (gT 2 (gsCons (gV 17) (gsCons (gV 19) (gsNil)))) (mYes) (mVar 19)) (aNil))) (mCall dLen (aCons (mVarB 5) (aNil)))) (mBinT dNe (mLc [17, 19] (iOver (mVarB 10)) (gT 2 (gsCons (gV 17) (gsCons (gV 19) (gsNil)))) (mBinT dEq (mVarB 17) (mCall (f_plain_form n) (aCons (mVarB 7) (aNil)))) (mVar 19)) (mLst (aCons (mVar 15) (aNil))))) (mRet (mC (.bl false))) (mPass)
def law_r12 (n : Nat) : DS := mSeq (law_s12 n) ((law_r13 n))
def law_s11 (n : Nat) : DS := mSetV 10 (mCall (f_readings_of n) (aCons (mVar 3) (aCons (mVarB 4) (aNil))))
def law_r11 (n : Nat) : DS := mSeq (law_s11 n) ((law_r12 n))
def law_s10 (n : Nat) : DS := mIf (mOr (mBinT dNe (mVarB 15) (mCall (f_count_orders n) (aCons (mVarB 2) (aCons (mVar 12) (aNil))))) (mBinT dNe (mVarB 16) (mCall (f_count_orders n) (aCons (mVarB 2) (aCons (mVar 13) (aNil)))))) (mRet (mC (.bl false))) (mPass)
def law_r10 (n : Nat) : DS := mFrz 12 (mFrz 13 (mSeq (law_s10 n) ((law_r11 n))))
def law_s9 (n : Nat) : DS := mFor (iOver (mVar 5)) (gV 9) (mSeq (mSetV 17 (mLc [8] (iOver (mVarB 9)) (gV 8) (mYes) (mBin dIx (mVarB 3) (mVarB 8)))) (mSeq (mSetV 11 (mCall (f_entails n) (aCons (mVar 17) (aCons (mVarB 7) (aNil))))) (mSeq (mIf (mBinT dIsNot (mCall (f_entails_fault n) (aCons (mVarB 17) (aCons (mVarB 7) (aCons (mVarB 11) (aNil))))) (mC .non)) (mRet (mC (.bl false))) (mPass)) (mSeq (mSetV 15 (mBin dAdd (mVarB 15) (mCall dInt (aCons (mCall (f_are_alike n) (aCons (mVar 17) (aCons (mVar 7) (aNil)))) (aNil))))) (mSeq (mSetV 11 (mCall (f_entails n) (aCons (mVar 7) (aCons (mVarB 17) (aNil))))) (mSeq (mIf (mBinT dIsNot (mCall (f_entails_fault n) (aCons (mVarB 7) (aCons (mVarB 17) (aCons (mVarB 11) (aNil))))) (mC .non)) (mRet (mC (.bl false))) (mPass)) (mSeq (mSetV 16 (mBin dAdd (mVarB 16) (mCall dInt (aCons (mBin dEq (mBin dIx (mVarB 11) (mC (.int 0))) (mC (.str s_swaps))) (aNil))))) (mForget [9, 11, 17] mPass))))))))
def law_r9 (n : Nat) : DS := mForget [9, 11, 17] (mSeq (law_s9 n) ((law_r10 n)))
def law_s8 (n : Nat) : DS := mAsg (gT 2 (gsCons (gV 15) (gsCons (gV 16) (gsNil)))) (mTup (aCons (mC (.int 0)) (aCons (mC (.int 0)) (aNil))))
def law_r8 (n : Nat) : DS := mSeq (law_s8 n) ((law_r9 n))
def law_s7 (n : Nat) : DS := mFor (iRg1 (mVarB 2)) (gV 8) (mForget [14] (mSeq (mFor (iRg2 (mBin dAdd (mVarB 8) (mC (.int 1))) (mVarB 2)) (gV 14) (mSeq (mIf (mBinT dNe (mBin dIx (mBin dIx (mVarB 3) (mBin dIx (mVarB 6) (mVarB 8))) (mC (.int 0))) (mBin dIx (mBin dIx (mVarB 3) (mBin dIx (mVarB 6) (mVarB 14))) (mC (.int 0)))) (mSeq (mAppend 12 (mTup (aCons (mC (.str s_ahead)) (aCons (mBin dIx (mVarB 6) (mVarB 8)) (aCons (mBin dIx (mVarB 6) (mVarB 14)) (aNil)))))) (mSeq (mIf (mBinT dEq (mBin dIx (mBin dIx (mVarB 3) (mBin dIx (mVarB 6) (mVarB 8))) (mC (.int 0))) (mC (.str s_all))) (mSeq (mAppend 13 (mTup (aCons (mC (.str s_ahead)) (aCons (mBin dIx (mVarB 6) (mVarB 8)) (aCons (mBin dIx (mVarB 6) (mVarB 14)) (aNil)))))) (mForget [] mPass)) (mForget [] mPass)) (mForget [] mPass))) (mForget [] mPass)) (mForget [14] mPass))) (mForget [8, 14] mPass)))
def law_r7 (n : Nat) : DS := mForget [8, 14] (mSeq (law_s7 n) ((law_r8 n)))
def law_s6 (n : Nat) : DS := mParN 12 13
def law_r6 (n : Nat) : DS := mSeq (law_s6 n) ((law_r7 n))
def law_s5 (n : Nat) : DS := mSetV 7 (mLc [8] (iOver (mVarB 6)) (gV 8) (mYes) (mBin dIx (mVarB 3) (mVarB 8)))
def law_r5 (n : Nat) : DS := mSeq (law_s5 n) ((law_r6 n))
def law_s4 (n : Nat) : DS := mSetV 6 (mBin dIx (mVarB 5) (mCall takeM (aCons (mVar 1) (aCons (mCall dLen (aCons (mVarB 5) (aNil))) (aNil)))))
def law_r4 (n : Nat) : DS := mSeq (law_s4 n) ((law_r5 n))
def law_s3 (n : Nat) : DS := mSetV 5 (mCall (f_orders_of n) (aCons (mVar 3) (aCons (mVarB 4) (aNil))))
def law_r3 (n : Nat) : DS := mSeq (law_s3 n) ((law_r4 n))
def law_s2 (n : Nat) : DS := mSetV 4 (mLc [18] (iOver (mVarB 3)) (gV 18) (mYes) (mC .non))
def law_r2 (n : Nat) : DS := mSeq (law_s2 n) ((law_r3 n))
def law_s1 (n : Nat) : DS := mSetV 3 (mLc [8] (iRg1 (mVarB 2)) (gV 8) (mYes) (mTup (aCons (mBin dIx (mLst (aCons (mC (.str s_all)) (aCons (mC (.str s_some)) (aNil)))) (mCall takeM (aCons (mVar 1) (aCons (mC (.int 2)) (aNil))))) (aCons (mBin dIx (mC (.str s_xyzw)) (mVarB 8)) (aNil)))))
def law_r1 (n : Nat) : DS := mSeq (law_s1 n) ((law_r2 n))
def law_s0 (n : Nat) : DS := mSetV 2 (mBin dAdd (mC (.int 1)) (mCall takeM (aCons (mVar 1) (aCons (mC (.int 4)) (aNil)))))
def law_r0 (n : Nat) : DS := mSeq (law_s0 n) ((law_r1 n))
def b_law (n : Nat) : DS := (law_r0 n)
structure Adr where
  a_parting_pair : Addr
  d_parting_pair : FuncData
  a_entails : Addr
  d_entails : FuncData
  a_swapped : Addr
  d_swapped : FuncData
  a_entails_fault : Addr
  d_entails_fault : FuncData
  a_are_alike : Addr
  d_are_alike : FuncData
  a_plain_form : Addr
  d_plain_form : FuncData
  a_orders_of : Addr
  d_orders_of : FuncData
  a_is_in : Addr
  d_is_in : FuncData
  a_first_between : Addr
  d_first_between : FuncData
  a_readings_of : Addr
  d_readings_of : FuncData
  a_two_nexts : Addr
  d_two_nexts : FuncData
  a_next_of : Addr
  d_next_of : FuncData
  a_round_of : Addr
  d_round_of : FuncData
  a_blocks_of : Addr
  d_blocks_of : FuncData
  a_block_with : Addr
  d_block_with : FuncData
  a_ties_of : Addr
  d_ties_of : FuncData
  a_wrong_within : Addr
  d_wrong_within : FuncData
  a_ordered : Addr
  d_ordered : FuncData
  a_ring_of : Addr
  d_ring_of : FuncData
  a_ordered_fault : Addr
  d_ordered_fault : FuncData
  a_along : Addr
  d_along : FuncData
  a_together : Addr
  d_together : FuncData
  a_count_orders : Addr
  d_count_orders : FuncData
  a_law_state : Addr
  d_law_state : FuncData
  a_law_take : Addr
  d_law_take : FuncData
  a_law : Addr
  d_law : FuncData
structure Tb (K : PySem.W.Frag) (mg : Str → Option Value) (α : Adr) : Prop where
  F_parting_pair : Fun K "parting_pair" "parting_pair" s_T_parting_pair α.a_parting_pair α.d_parting_pair
  b_parting_pair : Binds K α.d_parting_pair ["one", "other"] []
  m_parting_pair : mg "parting_pair" = some (.ref α.a_parting_pair)
  F_entails : Fun K "entails" "entails" s_T_entails α.a_entails α.d_entails
  b_entails : Binds K α.d_entails ["one", "other"] []
  m_entails : mg "entails" = some (.ref α.a_entails)
  F_swapped : Fun K "swapped" "swapped" s_T_swapped α.a_swapped α.d_swapped
  b_swapped : Binds K α.d_swapped ["prefix", "place"] []
  m_swapped : mg "swapped" = some (.ref α.a_swapped)
  F_entails_fault : Fun K "entails_fault" "entails_fault" s_T_entails_fault α.a_entails_fault α.d_entails_fault
  b_entails_fault : Binds K α.d_entails_fault ["one", "other", "told"] []
  m_entails_fault : mg "entails_fault" = some (.ref α.a_entails_fault)
  F_are_alike : Fun K "are_alike" "are_alike" s_T_are_alike α.a_are_alike α.d_are_alike
  b_are_alike : Binds K α.d_are_alike ["one", "other"] []
  m_are_alike : mg "are_alike" = some (.ref α.a_are_alike)
  F_plain_form : Fun K "plain_form" "plain_form" s_T_plain_form α.a_plain_form α.d_plain_form
  b_plain_form : Binds K α.d_plain_form ["prefix"] []
  m_plain_form : mg "plain_form" = some (.ref α.a_plain_form)
  F_orders_of : Fun K "orders_of" "orders_of" s_T_orders_of α.a_orders_of α.d_orders_of
  b_orders_of : Binds K α.d_orders_of ["phrases", "hosts"] []
  m_orders_of : mg "orders_of" = some (.ref α.a_orders_of)
  F_is_in : Fun K "is_in" "is_in" s_T_is_in α.a_is_in α.d_is_in
  b_is_in : Binds K α.d_is_in ["hosts", "phrase", "host"] []
  m_is_in : mg "is_in" = some (.ref α.a_is_in)
  F_first_between : Fun K "first_between" "first_between" s_T_first_between α.a_first_between α.d_first_between
  b_first_between : Binds K α.d_first_between ["order", "hosts"] []
  m_first_between : mg "first_between" = some (.ref α.a_first_between)
  F_readings_of : Fun K "readings_of" "readings_of" s_T_readings_of α.a_readings_of α.d_readings_of
  b_readings_of : Binds K α.d_readings_of ["phrases", "hosts"] []
  m_readings_of : mg "readings_of" = some (.ref α.a_readings_of)
  F_two_nexts : Fun K "two_nexts" "two_nexts" s_T_two_nexts α.a_two_nexts α.d_two_nexts
  b_two_nexts : Binds K α.d_two_nexts ["links"] []
  m_two_nexts : mg "two_nexts" = some (.ref α.a_two_nexts)
  F_next_of : Fun K "next_of" "next_of" s_T_next_of α.a_next_of α.d_next_of
  b_next_of : Binds K α.d_next_of ["links", "word"] []
  m_next_of : mg "next_of" = some (.ref α.a_next_of)
  F_round_of : Fun K "round_of" "round_of" s_T_round_of α.a_round_of α.d_round_of
  b_round_of : Binds K α.d_round_of ["links"] []
  m_round_of : mg "round_of" = some (.ref α.a_round_of)
  F_blocks_of : Fun K "blocks_of" "blocks_of" s_T_blocks_of α.a_blocks_of α.d_blocks_of
  b_blocks_of : Binds K α.d_blocks_of ["count", "links"] []
  m_blocks_of : mg "blocks_of" = some (.ref α.a_blocks_of)
  F_block_with : Fun K "block_with" "block_with" s_T_block_with α.a_block_with α.d_block_with
  b_block_with : Binds K α.d_block_with ["blocks", "word"] []
  m_block_with : mg "block_with" = some (.ref α.a_block_with)
  F_ties_of : Fun K "ties_of" "ties_of" s_T_ties_of α.a_ties_of α.d_ties_of
  b_ties_of : Binds K α.d_ties_of ["blocks", "links"] []
  m_ties_of : mg "ties_of" = some (.ref α.a_ties_of)
  F_wrong_within : Fun K "wrong_within" "wrong_within" s_T_wrong_within α.a_wrong_within α.d_wrong_within
  b_wrong_within : Binds K α.d_wrong_within ["blocks", "links"] []
  m_wrong_within : mg "wrong_within" = some (.ref α.a_wrong_within)
  F_ordered : Fun K "ordered" "ordered" s_T_ordered α.a_ordered α.d_ordered
  b_ordered : Binds K α.d_ordered ["count", "links"] []
  m_ordered : mg "ordered" = some (.ref α.a_ordered)
  F_ring_of : Fun K "ring_of" "ring_of" s_T_ring_of α.a_ring_of α.d_ring_of
  b_ring_of : Binds K α.d_ring_of ["ties", "left"] []
  m_ring_of : mg "ring_of" = some (.ref α.a_ring_of)
  F_ordered_fault : Fun K "ordered_fault" "ordered_fault" s_T_ordered_fault α.a_ordered_fault α.d_ordered_fault
  b_ordered_fault : Binds K α.d_ordered_fault ["count", "links", "told"] []
  m_ordered_fault : mg "ordered_fault" = some (.ref α.a_ordered_fault)
  F_along : Fun K "along" "along" s_T_along α.a_along α.d_along
  b_along : Binds K α.d_along ["links", "word"] []
  m_along : mg "along" = some (.ref α.a_along)
  F_together : Fun K "together" "together" s_T_together α.a_together α.d_together
  b_together : Binds K α.d_together ["links", "word"] []
  m_together : mg "together" = some (.ref α.a_together)
  F_count_orders : Fun K "count_orders" "count_orders" s_T_count_orders α.a_count_orders α.d_count_orders
  b_count_orders : Binds K α.d_count_orders ["count", "links"] []
  m_count_orders : mg "count_orders" = some (.ref α.a_count_orders)
  F_law_state : Fun K "_law_state" "_law_state" s_T_law_state α.a_law_state α.d_law_state
  b_law_state : Binds K α.d_law_state ["script"] []
  m_law_state : mg "_law_state" = some (.ref α.a_law_state)
  F_law_take : Fun K "_law_take" "_law_take" s_T_law_take α.a_law_take α.d_law_take
  b_law_take : Binds K α.d_law_take ["state", "most"] []
  m_law_take : mg "_law_take" = some (.ref α.a_law_take)
  F_law : Fun K "law" "law" s_T_law α.a_law α.d_law
  b_law : Binds K α.d_law ["script"] []
  m_law : mg "law" = some (.ref α.a_law)
  z_abs : mg "abs" = none
  z_all : mg "all" = none
  z_any : mg "any" = none
  z_enumerate : mg "enumerate" = none
  z_int : mg "int" = none
  z_len : mg "len" = none
  z_list : mg "list" = none
  z_range : mg "range" = none
  z_sorted : mg "sorted" = none
  z_sum : mg "sum" = none
  z_tuple : mg "tuple" = none
/-- all defs keep their promises, n calls deep -/
structure Ok (P : Program) (w : World) (K : PySem.W.Frag) (mg : Str → Option Value) (base : Heap) (α : Adr) (S : SA) (n : Nat) : Prop where
  hS : S.pr = P ∧ S.wd = w
  parting_pair : FnOk P w K mg base CX0 (n + 1) α.a_parting_pair α.d_parting_pair ["one", "other"] (spD S [false, true] (f_parting_pair n))
  entails : FnOk P w K mg base CX0 (n + 1) α.a_entails α.d_entails ["one", "other"] (spD S [false, true] (f_entails n))
  swapped : FnOk P w K mg base CX0 (n + 1) α.a_swapped α.d_swapped ["prefix", "place"] (spD S [true, true] (f_swapped n))
  entails_fault : FnOk P w K mg base CX0 (n + 1) α.a_entails_fault α.d_entails_fault ["one", "other", "told"] (spD S [true, true, true] (f_entails_fault n))
  are_alike : FnOk P w K mg base CX0 (n + 1) α.a_are_alike α.d_are_alike ["one", "other"] (spD S [false, false] (f_are_alike n))
  plain_form : FnOk P w K mg base CX0 (n + 1) α.a_plain_form α.d_plain_form ["prefix"] (spD S [true] (f_plain_form n))
  orders_of : FnOk P w K mg base CX0 (n + 1) α.a_orders_of α.d_orders_of ["phrases", "hosts"] (spD S [false, true] (f_orders_of n))
  is_in : FnOk P w K mg base CX0 (n + 1) α.a_is_in α.d_is_in ["hosts", "phrase", "host"] (spD S [true, true, true] (f_is_in n))
  first_between : FnOk P w K mg base CX0 (n + 1) α.a_first_between α.d_first_between ["order", "hosts"] (spD S [false, true] (f_first_between n))
  readings_of : FnOk P w K mg base CX0 (n + 1) α.a_readings_of α.d_readings_of ["phrases", "hosts"] (spD S [false, true] (f_readings_of n))
  two_nexts : FnOk P w K mg base CX0 (n + 1) α.a_two_nexts α.d_two_nexts ["links"] (spD S [false] (f_two_nexts n))
  next_of : FnOk P w K mg base CX0 (n + 1) α.a_next_of α.d_next_of ["links", "word"] (spD S [false, true] (f_next_of n))
  round_of : FnOk P w K mg base CX0 (n + 1) α.a_round_of α.d_round_of ["links"] (spD S [false] (f_round_of n))
  blocks_of : FnOk P w K mg base CX0 (n + 1) α.a_blocks_of α.d_blocks_of ["count", "links"] (spD S [true, false] (f_blocks_of n))
  block_with : FnOk P w K mg base CX0 (n + 1) α.a_block_with α.d_block_with ["blocks", "word"] (spD S [true, true] (f_block_with n))
  ties_of : FnOk P w K mg base CX0 (n + 1) α.a_ties_of α.d_ties_of ["blocks", "links"] (spD S [true, false] (f_ties_of n))
  wrong_within : FnOk P w K mg base CX0 (n + 1) α.a_wrong_within α.d_wrong_within ["blocks", "links"] (spD S [true, false] (f_wrong_within n))
  ordered : FnOk P w K mg base CX0 (n + 1) α.a_ordered α.d_ordered ["count", "links"] (spD S [true, false] (f_ordered n))
  ring_of : FnOk P w K mg base CX0 (n + 1) α.a_ring_of α.d_ring_of ["ties", "left"] (spD S [true, true] (f_ring_of n))
  ordered_fault : FnOk P w K mg base CX0 (n + 1) α.a_ordered_fault α.d_ordered_fault ["count", "links", "told"] (spD S [true, false, true] (f_ordered_fault n))
  along : FnOk P w K mg base CX0 (n + 1) α.a_along α.d_along ["links", "word"] (spD S [true, false] (f_along n))
  together : FnOk P w K mg base CX0 (n + 1) α.a_together α.d_together ["links", "word"] (spD S [true, false] (f_together n))
  count_orders : FnOk P w K mg base CX0 (n + 1) α.a_count_orders α.d_count_orders ["count", "links"] (spD S [true, false] (f_count_orders n))
  law_take : FnOk P w K mg base CX0 (n + 1) α.a_law_take α.d_law_take ["state", "most"] (spD S [false, false] takeM)
section
variable {P : Program} {w : World} {K : PySem.W.Frag} {mg : Str → Option Value} {base : Heap} {α : Adr} {S : SA} {n : Nat}
theorem ok_parting_pair (T : Tb K mg α) (I : Ok P w K mg base α S n) : FnOk P w K mg base CX0 (n + 1 + 1) α.a_parting_pair α.d_parting_pair ["one", "other"] (spD S [false, true] (f_parting_pair (n + 1))) :=
  fn_ok [false, true] T.F_parting_pair sc_parting_pair rfl fun cdv A outer s H E hr =>
  (qforget [2, 3, 4, 5] (qs_cons (qfor [2, 4, 5] (qi_enum imForOk (by rfl) T.z_enumerate (qv 0).xf) (qgt 2 (qgs_cons (qgv 2 sc_parting_pair.nd) (qgs_cons (qgt 2 (qgs_cons (qgv 4 sc_parting_pair.nd) (qgs_cons (qgv 5 sc_parting_pair.nd) qgs_nil))) qgs_nil)))
  (qforget [3] (qs_cons (qfor [3] (qi_rg2 (by rfl) T.z_range (qbin o_add (qvb 2) qint.b).b (qcallB c_len (by rfl) T.z_len (by decide +kernel) (qab_cons (qvb 0) qab_nil)).b) (qgv 3 sc_parting_pair.nd)
  (qs_cons (qif (qw_and (qtcmp (o_eq (hu64 hr)) (qvb 4) (qstr s_all).b) (qw_and (qtcmp (o_eq (hu64 hr)) (qix (hu1 hr) (qix (hu1 hr) (qvb 0) (qvb 3)).b qint.b).b (qstr s_some).b) (qw_and1 (qtcmp o_lt (qindex (hu65 hr) (qvb 1) (qix (hu1 hr) (qvb 0) (qvb 3)).b).b (qindex (hu65 hr) (qvb 1) (qix (hu1 hr) (qvb 0) (qvb 2)).b).b)))).test
  (qs_one (qret (qtup (qa_cons (qv 5) (qa_cons (qix (hu1 hr) (qix (hu1 hr) (qvb 0) (qvb 3)).b qint.b) qa_nil)))))
  qs_nil) (qforget [3] qs_nil))) (qforget [2, 3, 4, 5] qs_nil))))
  (qs_one (qret qnon))))
theorem ok_entails (T : Tb K mg α) (I : Ok P w K mg base α S n) : FnOk P w K mg base CX0 (n + 1 + 1) α.a_entails α.d_entails ["one", "other"] (spD S [false, true] (f_entails (n + 1))) :=
  fn_ok [false, true] T.F_entails sc_entails rfl fun cdv A outer s H E hr =>
  (qs_cons (qset 2 sc_entails.nd (qcall I.parting_pair hr (by rfl) T.m_parting_pair T.F_parting_pair.kp T.b_parting_pair (qam_v (qv 0) (qam_b (qvb 1) qam_nil))))
  (qs_cons (qif (qtcmp o_isNot (qvb 2) qnon.b)
  (qs_one (qret (qbin o_add (qtup (qa_cons (qstr s_apart) qa_nil)).b (qvb 2))))
  qs_nil)
  (qs_cons (qset 3 sc_entails.nd (qcallTF c_list (by rfl) T.z_list (by decide +kernel) (qab_cons (qvb 0) qab_nil)).e)
  (qs_cons (qsetO 4 sc_entails.nd (qlst qa_nil))
  (qs_cons (qset 5 sc_entails.nd qbl)
  (qforget [6] (qs_cons (qwhile 100 (qtru (qvb 5))
  (qs_cons (qset 5 sc_entails.nd qbl)
  (qforget [6] (qs_cons (qfor [6] (qi_rg1 (by rfl) T.z_range (qbin o_sub (qcallB c_len (by rfl) T.z_len (by decide +kernel) (qab_cons (qvb 3) qab_nil)).b qint.b).b) (qgv 6 sc_entails.nd)
  (qs_cons (qif (qtcmp o_gt (qindex (hu65 hr) (qvb 1) (qix (hu1 hr) (qvb 3) (qvb 6)).b).b (qindex (hu65 hr) (qvb 1) (qix (hu1 hr) (qvb 3) (qbin o_add (qvb 6) qint.b).b).b).b)
  (qs_cons (qset 3 sc_entails.nd (qbin o_add (qbin o_add (qsl (qvb 3) qo_none (qo_some (qvb 6))).b (qlst (qa_cons (qix (hu1 hr) (qvb 3) (qbin o_add (qvb 6) qint.b).b) (qa_cons (qix (hu1 hr) (qvb 3) (qvb 6)) qa_nil))).b).b (qsl (qvb 3) (qo_some (qbin o_add (qvb 6) qint.b).b) qo_none).b))
  (qs_cons (qappend 4 (qv 6))
  (qs_cons (qset 5 sc_entails.nd qbl) (qforget [] qs_nil))))
  (qforget [] qs_nil)) (qforget [6] qs_nil))) (qforget [6] qs_nil)))))
  (qfrz 4 (qs_one (qret (qtup (qa_cons (qstr s_swaps) (qa_cons (qv 4) qa_nil)))))))))))))
theorem ok_swapped (T : Tb K mg α) (I : Ok P w K mg base α S n) : FnOk P w K mg base CX0 (n + 1 + 1) α.a_swapped α.d_swapped ["prefix", "place"] (spD S [true, true] (f_swapped (n + 1))) :=
  fn_ok [true, true] T.F_swapped sc_swapped rfl fun cdv A outer s H E hr =>
  (qs_cons (qif (qw_or (qt_not (qtchain o_le o_lt qint.b (qvb 1) (qbin o_sub (qcallB c_len (by rfl) T.z_len (by decide +kernel) (qab_cons (qvb 0) qab_nil)).b qint.b).b)) (qw_or1 (qw_and (qtcmp (o_eq (hu64 hr)) (qix (hu1 hr) (qix (hu1 hr) (qvb 0) (qvb 1)).b qint.b).b (qstr s_all).b) (qw_and1 (qtcmp (o_eq (hu64 hr)) (qix (hu1 hr) (qix (hu1 hr) (qvb 0) (qbin o_add (qvb 1) qint.b).b).b qint.b).b (qstr s_some).b))).test)).test
  (qs_one (qret qnon))
  qs_nil)
  (qs_one (qret (qbin o_add (qbin o_add (qsl (qvb 0) qo_none (qo_some (qvb 1))).b (qlst (qa_cons (qix (hu1 hr) (qvb 0) (qbin o_add (qvb 1) qint.b).b) (qa_cons (qix (hu1 hr) (qvb 0) (qvb 1)) qa_nil))).b).b (qsl (qvb 0) (qo_some (qbin o_add (qvb 1) qint.b).b) qo_none).b))))
theorem ok_entails_fault (T : Tb K mg α) (I : Ok P w K mg base α S n) : FnOk P w K mg base CX0 (n + 1 + 1) α.a_entails_fault α.d_entails_fault ["one", "other", "told"] (spD S [true, true, true] (f_entails_fault (n + 1))) :=
  fn_ok [true, true, true] T.F_entails_fault sc_entails_fault rfl fun cdv A outer s H E hr =>
  (qs_cons (qif (qtcmp (o_eq (hu64 hr)) (qix (hu1 hr) (qvb 2) qint.b).b (qstr s_swaps).b)
  (qs_cons (qset 5 sc_entails_fault.nd (qcallTF c_list (by rfl) T.z_list (by decide +kernel) (qab_cons (qvb 0) qab_nil)).e)
  (qforget [6, 7] (qs_cons (qfor [6, 7] (qi_enum imForOk (by rfl) T.z_enumerate (qix (hu1 hr) (qvb 2) qint.b).xf) (qgt 2 (qgs_cons (qgv 6 sc_entails_fault.nd) (qgs_cons (qgv 7 sc_entails_fault.nd) qgs_nil)))
  (qs_cons (qset 5 sc_entails_fault.nd (qcall I.swapped hr (by rfl) T.m_swapped T.F_swapped.kp T.b_swapped (qam_b (qvb 5) (qam_b (qvb 7) qam_nil))))
  (qs_cons (qif (qtcmp o_is (qvb 5) qnon.b)
  (qs_one (qret (qtup (qa_cons (qstr s_swap) (qa_cons (qv 6) qa_nil)))))
  qs_nil) (qforget [6, 7] qs_nil))))
  (qs_one (qret (qifE (qtcmp (o_eq (hu64 hr)) (qvb 5) (qvb 1)) qnon (qtup (qa_cons (qstr s_other) qa_nil))))))))
  (qforget [5, 6, 7] qs_nil))
  (qs_cons (qset 3 sc_entails_fault.nd (qtup (qa_cons (qtup (qa_cons (qstr s_all) (qa_cons (qix (hu1 hr) (qvb 2) qint.b) qa_nil))) (qa_cons (qtup (qa_cons (qstr s_some) (qa_cons (qix (hu1 hr) (qvb 2) qint.b) qa_nil))) qa_nil))))
  (qs_cons (qif (qw_or (qtcmp (o_notInX (hu65 hr)) (qix (hu1 hr) (qvb 3) qint.b).b (qvb 0)) (qw_or1 (qtcmp (o_notInX (hu65 hr)) (qix (hu1 hr) (qvb 3) qint.b).b (qvb 0)))).test
  (qs_one (qret (qtup (qa_cons (qstr s_names) qa_nil))))
  qs_nil)
  (qs_cons (qset 4 sc_entails_fault.nd (qandV (qcmp o_lt (qindex (hu65 hr) (qvb 0) (qix (hu1 hr) (qvb 3) qint.b).b).b (qindex (hu65 hr) (qvb 0) (qix (hu1 hr) (qvb 3) qint.b).b).b) (qe_one (qcmp o_lt (qindex (hu65 hr) (qvb 1) (qix (hu1 hr) (qvb 3) qint.b).b).b (qindex (hu65 hr) (qvb 1) (qix (hu1 hr) (qvb 3) qint.b).b).b))))
  (qs_one (qret (qifE (qtru (qvb 4)) qnon (qtup (qa_cons (qstr s_pair) qa_nil)))))))))
theorem ok_are_alike (T : Tb K mg α) (I : Ok P w K mg base α S n) : FnOk P w K mg base CX0 (n + 1 + 1) α.a_are_alike α.d_are_alike ["one", "other"] (spD S [false, false] (f_are_alike (n + 1))) :=
  fn_ok [false, false] T.F_are_alike sc_are_alike rfl fun cdv A outer s H E hr =>
  (qs_one (qret (qandV (qcmp o_is (qcall I.parting_pair hr (by rfl) T.m_parting_pair T.F_parting_pair.kp T.b_parting_pair (qam_v (qv 0) (qam_b (qvb 1) qam_nil))).b qnon.b) (qe_one (qcmp o_is (qcall I.parting_pair hr (by rfl) T.m_parting_pair T.F_parting_pair.kp T.b_parting_pair (qam_v (qv 1) (qam_b (qvb 0) qam_nil))).b qnon.b)))))
theorem ok_plain_form (T : Tb K mg α) (I : Ok P w K mg base α S n) : FnOk P w K mg base CX0 (n + 1 + 1) α.a_plain_form α.d_plain_form ["prefix"] (spD S [true] (f_plain_form (n + 1))) :=
  fn_ok [true] T.F_plain_form sc_plain_form rfl fun cdv A outer s H E hr =>
  (qs_cons (qset 1 sc_plain_form.nd (qlst qa_nil).e)
  (qs_cons (qset 2 sc_plain_form.nd qint)
  (qforget [3] (qs_cons (qwhile 100 (qtcmp o_lt (qvb 2) (qcallB c_len (by rfl) T.z_len (by decide +kernel) (qab_cons (qvb 0) qab_nil)).b)
  (qs_cons (qset 3 sc_plain_form.nd (qv 2))
  (qs_cons (qwhile 100 (qw_and (qtcmp o_lt (qvb 3) (qcallB c_len (by rfl) T.z_len (by decide +kernel) (qab_cons (qvb 0) qab_nil)).b) (qw_and1 (qtcmp (o_eq (hu64 hr)) (qix (hu1 hr) (qix (hu1 hr) (qvb 0) (qvb 3)).b qint.b).b (qix (hu1 hr) (qix (hu1 hr) (qvb 0) (qvb 2)).b qint.b).b))).test
  (qs_cons (qset 3 sc_plain_form.nd (qbin o_add (qvb 3) qint.b)) (qforget [] qs_nil)))
  (qs_cons (qset 1 sc_plain_form.nd (qbin o_add (qvb 1) (qcallBF (c_sorted (hu64 hr)) (by rfl) T.z_sorted (by decide +kernel) (qab_cons (qsl (qvb 0) (qo_some (qvb 2)) (qo_some (qvb 3))).b qab_nil)).b))
  (qs_cons (qset 2 sc_plain_form.nd (qv 3)) (qforget [3] qs_nil))))))
  (qs_one (qret (qv 1)))))))
theorem ok_is_in (T : Tb K mg α) (I : Ok P w K mg base α S n) : FnOk P w K mg base CX0 (n + 1 + 1) α.a_is_in α.d_is_in ["hosts", "phrase", "host"] (spD S [true, true, true] (f_is_in (n + 1))) :=
  fn_ok [true, true, true] T.F_is_in sc_is_in rfl fun cdv A outer s H E hr =>
  (qs_cons (qset 3 sc_is_in.nd (qix (hu1 hr) (qvb 0) (qvb 1)))
  (qs_cons (qwhile 100 (qw_and (qtcmp o_isNot (qvb 3) qnon.b) (qw_and1 (qtcmp (o_ne (hu64 hr)) (qvb 3) (qvb 2)))).test
  (qs_cons (qset 3 sc_is_in.nd (qix (hu1 hr) (qvb 0) (qvb 3))) (qforget [] qs_nil)))
  (qs_one (qret (qcmp o_isNot (qvb 3) qnon.b)))))
theorem ok_first_between (T : Tb K mg α) (I : Ok P w K mg base α S n) : FnOk P w K mg base CX0 (n + 1 + 1) α.a_first_between α.d_first_between ["order", "hosts"] (spD S [false, true] (f_first_between (n + 1))) :=
  fn_ok [false, true] T.F_first_between sc_first_between rfl fun cdv A outer s H E hr =>
  (qforget [2, 3, 4, 5] (qs_cons (qfor [2, 3] (qi_enum imForOk (by rfl) T.z_enumerate (qv 0).xf) (qgt 2 (qgs_cons (qgv 2 sc_first_between.nd) (qgs_cons (qgv 3 sc_first_between.nd) qgs_nil)))
  (qs_cons (qset 4 sc_first_between.nd (qix (hu1 hr) (qvb 1) (qvb 3)))
  (qs_cons (qif (qtcmp (o_inX (hu65 hr)) (qvb 4) (qsl (qvb 0) qo_none (qo_some (qvb 2))).b)
  (qforget [5] (qs_cons (qfor [5] (qi_any imForOk (qsl (qvb 0) (qo_some (qbin o_add (qindex (hu65 hr) (qvb 0) (qvb 4)).b qint.b).b) (qo_some (qvb 2))).xf) (qgv 5 sc_first_between.nd)
  (qs_cons (qif (qt_not (qtru (qcall I.is_in hr (by rfl) T.m_is_in T.F_is_in.kp T.b_is_in (qam_b (qvb 1) (qam_b (qvb 5) (qam_b (qvb 4) qam_nil)))).b))
  (qs_one (qret (qtup (qa_cons (qv 4) (qa_cons (qv 5) (qa_cons (qv 3) qa_nil))))))
  qs_nil) (qforget [5] qs_nil))) (qforget [5] qs_nil)))
  (qforget [5] qs_nil)) (qforget [2, 3, 4, 5] qs_nil))))
  (qs_one (qret qnon))))
theorem ok_orders_of (T : Tb K mg α) (I : Ok P w K mg base α S n) : FnOk P w K mg base CX0 (n + 1 + 1) α.a_orders_of α.d_orders_of ["phrases", "hosts"] (spD S [false, true] (f_orders_of (n + 1))) :=
  fn_ok [false, true] T.F_orders_of sc_orders_of rfl fun cdv A outer s H E hr =>
  (qs_cons (qset 2 sc_orders_of.nd (qlst (qa_cons (qlst qa_nil).e qa_nil)).e)
  (qforget [3] (qs_cons (qfor [3] (qi_any imForOk (qv 0).xf) (qgv 3 sc_orders_of.nd)
  (qs_cons (qsetLc2V 2 [("row", 4), ("at", 5)] [5] sc_orders_of.nd (qi_any (imCompOk _) (qvb 2).xc) (blkOk_by (N := N_orders_of) (sc := defScope s_T_orders_of) (by decide +kernel)) (fun _ _ _ _ _ => (qgv 4 sc_orders_of.nd)) (fun _ _ _ _ _ => qts_nil) (fun _ _ _ _ _ => (qi_rg1 (by rfl) T.z_range (qcallB c_len (by rfl) T.z_len (by decide +kernel) (qab_cons (qvb 0) qab_nil)).b)) (fun _ _ _ _ _ => (qgv 5 sc_orders_of.nd)) (fun _ _ _ _ _ => (qts_one (qtcmp (o_notInX (hu65 hr)) (qvb 5) (qvb 4)))) (fun _ _ _ _ _ => (qbin o_add (qvb 4) (qlst (qa_cons (qv 5) qa_nil)).b)) (sw_true rfl rfl rfl (by decide +kernel))) (qforget [3] qs_nil)))
  (qs_one (qret (qlc [("row", 4)] sc_orders_of.nd (qi_any (imCompOk _) (qvb 2).xc) (blkOk_by (N := N_orders_of) (sc := defScope s_T_orders_of) (by decide +kernel)) (fun _ _ _ _ _ => (qgv 4 sc_orders_of.nd)) (fun _ _ _ _ _ => (qts_one (qtcmp o_is (qcall I.first_between hr (by rfl) T.m_first_between T.F_first_between.kp T.b_first_between (qam_v (qv 4) (qam_b (qvb 1) qam_nil))).b qnon.b))) (fun _ _ _ _ _ => (qv 4))).e)))))
theorem ok_readings_of (T : Tb K mg α) (I : Ok P w K mg base α S n) : FnOk P w K mg base CX0 (n + 1 + 1) α.a_readings_of α.d_readings_of ["phrases", "hosts"] (spD S [false, true] (f_readings_of (n + 1))) :=
  fn_ok [false, true] T.F_readings_of sc_readings_of rfl fun cdv A outer s H E hr =>
  (qs_cons (qsetO 2 sc_readings_of.nd (qnewN I.hS))
  (qforget [3, 4] (qs_cons (qfor [3] (qi_any imForOk (qcall I.orders_of hr (by rfl) T.m_orders_of T.F_orders_of.kp T.b_orders_of (qam_v (qv 0) (qam_b (qvb 1) qam_nil))).xf) (qgv 3 sc_readings_of.nd)
  (qs_cons (qset 4 sc_readings_of.nd (qcallT c_tuple (by rfl) T.z_tuple (by decide +kernel) (qab_cons (qcall I.plain_form hr (by rfl) T.m_plain_form T.F_plain_form.kp T.b_plain_form (qam_b (qlc [("at", 5)] sc_readings_of.nd (qi_any (imCompOk _) (qvb 3).xc) (blkOk_by (N := N_readings_of) (sc := defScope s_T_readings_of) (by decide +kernel)) (fun _ _ _ _ _ => (qgv 5 sc_readings_of.nd)) (fun _ _ _ _ _ => qts_nil) (fun _ _ _ _ _ => (qix (hu1 hr) (qvb 0) (qvb 5)))).b qam_nil)).b qab_nil)))
  (qs_cons (qputN 2 I.hS (hu64 hr) (qvb 4) (qbin o_add (qgetN I.hS (hu64 hr) (qvb 2) (qvb 4) qint).b qint.b)) (qforget [3, 4] qs_nil))))
  (qs_one (qret (qlc [("key", 4)] sc_readings_of.nd (qi_any (imCompOk _) (qcallBF (c_sortedN I.hS rfl (hu64 hr)) (by rfl) T.z_sorted (by decide +kernel) (qab_cons (qvb 2) qab_nil)).b.xc) (blkOk_by (N := N_readings_of) (sc := defScope s_T_readings_of) (by decide +kernel)) (fun _ _ _ _ _ => (qgv 4 sc_readings_of.nd)) (fun _ _ _ _ _ => qts_nil) (fun _ _ _ _ _ => (qtup (qa_cons (qcallTF c_list (by rfl) T.z_list (by decide +kernel) (qab_cons (qvb 4) qab_nil)).e (qa_cons (qixN I.hS (hu64 hr) (qvb 2) (qvb 4)) qa_nil))))).e)))))
theorem ok_two_nexts (T : Tb K mg α) (I : Ok P w K mg base α S n) : FnOk P w K mg base CX0 (n + 1 + 1) α.a_two_nexts α.d_two_nexts ["links"] (spD S [false] (f_two_nexts (n + 1))) :=
  fn_ok [false] T.F_two_nexts sc_two_nexts rfl fun cdv A outer s H E hr =>
  (qforget [1, 2, 3, 4, 5] (qs_cons (qfor [1, 3, 4, 5] (qi_enum imForOk (by rfl) T.z_enumerate (qv 0).xf) (qgt 2 (qgs_cons (qgv 1 sc_two_nexts.nd) (qgs_cons (qgt 3 (qgs_cons (qgv 3 sc_two_nexts.nd) (qgs_cons (qgv 4 sc_two_nexts.nd) (qgs_cons (qgv 5 sc_two_nexts.nd) qgs_nil)))) qgs_nil)))
  (qforget [2] (qs_cons (qfor [2] (qi_rg1 (by rfl) T.z_range (qvb 1)) (qgv 2 sc_two_nexts.nd)
  (qs_cons (qif (qw_and (qtcmp (o_eq (hu64 hr)) (qvb 3) (qstr tx_next).b) (qw_and1 (qtcmp (o_eq (hu64 hr)) (qix (hu1 hr) (qix (hu1 hr) (qvb 0) (qvb 2)).b qint.b).b (qstr tx_next).b))).test
  (qs_one (qif (qtcmp (o_ne (hu64 hr)) (qcmp (o_eq (hu64 hr)) (qix (hu1 hr) (qix (hu1 hr) (qvb 0) (qvb 2)).b qint.b).b (qvb 4)).b (qcmp (o_eq (hu64 hr)) (qix (hu1 hr) (qix (hu1 hr) (qvb 0) (qvb 2)).b qint.b).b (qvb 5)).b)
  (qs_one (qret (qtup (qa_cons (qv 2) (qa_cons (qv 1) qa_nil)))))
  qs_nil))
  qs_nil) (qforget [2] qs_nil))) (qforget [1, 2, 3, 4, 5] qs_nil))))
  (qs_one (qret qnon))))
theorem ok_next_of (T : Tb K mg α) (I : Ok P w K mg base α S n) : FnOk P w K mg base CX0 (n + 1 + 1) α.a_next_of α.d_next_of ["links", "word"] (spD S [false, true] (f_next_of (n + 1))) :=
  fn_ok [false, true] T.F_next_of sc_next_of rfl fun cdv A outer s H E hr =>
  (qforget [2, 3, 4, 5] (qs_cons (qfor [2, 3, 4, 5] (qi_enum imForOk (by rfl) T.z_enumerate (qv 0).xf) (qgt 2 (qgs_cons (qgv 2 sc_next_of.nd) (qgs_cons (qgt 3 (qgs_cons (qgv 3 sc_next_of.nd) (qgs_cons (qgv 4 sc_next_of.nd) (qgs_cons (qgv 5 sc_next_of.nd) qgs_nil)))) qgs_nil)))
  (qs_cons (qif (qw_and (qtcmp (o_eq (hu64 hr)) (qvb 3) (qstr tx_next).b) (qw_and1 (qtcmp (o_eq (hu64 hr)) (qvb 4) (qvb 1)))).test
  (qs_one (qret (qv 2)))
  qs_nil) (qforget [2, 3, 4, 5] qs_nil)))
  (qs_one (qret qnon))))
theorem ok_round_of (T : Tb K mg α) (I : Ok P w K mg base α S n) : FnOk P w K mg base CX0 (n + 1 + 1) α.a_round_of α.d_round_of ["links"] (spD S [false] (f_round_of (n + 1))) :=
  fn_ok [false] T.F_round_of sc_round_of rfl fun cdv A outer s H E hr =>
  (qforget [1, 2, 3, 4, 5, 6] (qs_cons (qfor [1, 2, 3, 4] (qi_enum imForOk (by rfl) T.z_enumerate (qv 0).xf) (qgt 2 (qgs_cons (qgv 1 sc_round_of.nd) (qgs_cons (qgt 3 (qgs_cons (qgv 2 sc_round_of.nd) (qgs_cons (qgv 3 sc_round_of.nd) (qgs_cons (qgv 4 sc_round_of.nd) qgs_nil)))) qgs_nil)))
  (qs_cons (qif (qtcmp (o_eq (hu64 hr)) (qvb 2) (qstr tx_next).b)
  (qs_cons (qsetO 5 sc_round_of.nd (qlst (qa_cons (qv 1) qa_nil)))
  (qs_cons (qset 6 sc_round_of.nd (qv 4))
  (qs_cons (qwhile 100 (qw_and (qtcmp (o_ne (hu64 hr)) (qvb 6) (qvb 3)) (qw_and (qtcmp o_isNot (qcall I.next_of hr (by rfl) T.m_next_of T.F_next_of.kp T.b_next_of (qam_v (qv 0) (qam_b (qvb 6) qam_nil))).b qnon.b) (qw_and1 (qtcmp (o_notInX (hu65 hr)) (qcall I.next_of hr (by rfl) T.m_next_of T.F_next_of.kp T.b_next_of (qam_v (qv 0) (qam_b (qvb 6) qam_nil))).b (qvb 5))))).test
  (qs_cons (qappend 5 (qcall I.next_of hr (by rfl) T.m_next_of T.F_next_of.kp T.b_next_of (qam_v (qv 0) (qam_b (qvb 6) qam_nil))))
  (qs_cons (qset 6 sc_round_of.nd (qix (hu1 hr) (qix (hu1 hr) (qvb 0) (qix (hu1 hr) (qvb 5) (qneg qint.b).b).b).b qint.b)) (qforget [] qs_nil))))
  (qs_cons (qif (qtcmp (o_eq (hu64 hr)) (qvb 6) (qvb 3))
  (qfrz 5 (qs_one (qret (qv 5))))
  qs_nil) (qforget [5, 6] qs_nil)))))
  (qforget [5, 6] qs_nil)) (qforget [1, 2, 3, 4, 5, 6] qs_nil)))
  (qs_one (qret qnon))))
theorem ok_blocks_of (T : Tb K mg α) (I : Ok P w K mg base α S n) : FnOk P w K mg base CX0 (n + 1 + 1) α.a_blocks_of α.d_blocks_of ["count", "links"] (spD S [true, false] (f_blocks_of (n + 1))) :=
  fn_ok [true, false] T.F_blocks_of sc_blocks_of rfl fun cdv A outer s H E hr =>
  (qs_cons (qsetLcV 2 [("kind", 6), ("one", 7), ("other", 8)] sc_blocks_of.nd (qi_any (imCompOk _) (qvb 1).xc) (blkOk_by (N := N_blocks_of) (sc := defScope s_T_blocks_of) (by decide +kernel)) (fun _ _ _ _ _ => (qgt 3 (qgs_cons (qgv 6 sc_blocks_of.nd) (qgs_cons (qgv 7 sc_blocks_of.nd) (qgs_cons (qgv 8 sc_blocks_of.nd) qgs_nil))))) (fun _ _ _ _ _ => (qts_one (qtcmp (o_eq (hu64 hr)) (qvb 6) (qstr tx_next).b))) (fun _ _ _ _ _ => (qv 8)) (sw_true rfl rfl rfl (by decide +kernel)))
  (qs_cons (qsetO 3 sc_blocks_of.nd (qlst qa_nil))
  (qforget [4, 5] (qs_cons (qfor [4] (qi_rg1 (by rfl) T.z_range (qvb 0)) (qgv 4 sc_blocks_of.nd)
  (qs_cons (qif (qtcmp (o_notInX (hu65 hr)) (qvb 4) (qvb 2))
  (qs_cons (qsetO 5 sc_blocks_of.nd (qlst (qa_cons (qv 4) qa_nil)))
  (qs_cons (qwhile 100 (qtcmp o_isNot (qcall I.next_of hr (by rfl) T.m_next_of T.F_next_of.kp T.b_next_of (qam_v (qv 1) (qam_b (qix (hu1 hr) (qvb 5) (qneg qint.b).b).b qam_nil))).b qnon.b)
  (qs_cons (qappend 5 (qix (hu1 hr) (qix (hu1 hr) (qvb 1) (qcall I.next_of hr (by rfl) T.m_next_of T.F_next_of.kp T.b_next_of (qam_v (qv 1) (qam_b (qix (hu1 hr) (qvb 5) (qneg qint.b).b).b qam_nil))).b).b qint.b)) (qforget [] qs_nil)))
  (qfrz 5 (qs_cons (qappend 3 (qv 5)) (qforget [5] qs_nil)))))
  (qforget [5] qs_nil)) (qforget [4, 5] qs_nil)))
  (qfrz 3 (qs_one (qret (qv 3))))))))
theorem ok_block_with (T : Tb K mg α) (I : Ok P w K mg base α S n) : FnOk P w K mg base CX0 (n + 1 + 1) α.a_block_with α.d_block_with ["blocks", "word"] (spD S [true, true] (f_block_with (n + 1))) :=
  fn_ok [true, true] T.F_block_with sc_block_with rfl fun cdv A outer s H E hr =>
  (qs_one (qret (qix (hu1 hr) (qlc [("at", 2), ("row", 3)] sc_block_with.nd (qi_enum (imCompOk _) (by rfl) T.z_enumerate (qvb 0).xc) (blkOk_by (N := N_block_with) (sc := defScope s_T_block_with) (by decide +kernel)) (fun _ _ _ _ _ => (qgt 2 (qgs_cons (qgv 2 sc_block_with.nd) (qgs_cons (qgv 3 sc_block_with.nd) qgs_nil)))) (fun _ _ _ _ _ => (qts_one (qtcmp (o_inX (hu65 hr)) (qvb 1) (qvb 3)))) (fun _ _ _ _ _ => (qv 2))).b qint.b)))
theorem ok_ties_of (T : Tb K mg α) (I : Ok P w K mg base α S n) : FnOk P w K mg base CX0 (n + 1 + 1) α.a_ties_of α.d_ties_of ["blocks", "links"] (spD S [true, false] (f_ties_of (n + 1))) :=
  fn_ok [true, false] T.F_ties_of sc_ties_of rfl fun cdv A outer s H E hr =>
  (qs_cons (qsetO 2 sc_ties_of.nd (qlst qa_nil))
  (qforget [3, 4, 5, 6, 7, 8] (qs_cons (qfor [3, 4, 5, 6] (qi_enum imForOk (by rfl) T.z_enumerate (qv 1).xf) (qgt 2 (qgs_cons (qgv 3 sc_ties_of.nd) (qgs_cons (qgt 3 (qgs_cons (qgv 4 sc_ties_of.nd) (qgs_cons (qgv 5 sc_ties_of.nd) (qgs_cons (qgv 6 sc_ties_of.nd) qgs_nil)))) qgs_nil)))
  (qs_cons (qpar 7 8 sc_ties_of.nd (qa_cons (qcall I.block_with hr (by rfl) T.m_block_with T.F_block_with.kp T.b_block_with (qam_b (qvb 0) (qam_b (qvb 5) qam_nil))) (qa_cons (qcall I.block_with hr (by rfl) T.m_block_with T.F_block_with.kp T.b_block_with (qam_b (qvb 0) (qam_b (qvb 6) qam_nil))) qa_nil)))
  (qs_cons (qif (qw_and (qtcmp (o_eq (hu64 hr)) (qvb 4) (qstr s_ahead).b) (qw_and1 (qtcmp (o_ne (hu64 hr)) (qvb 7) (qvb 8)))).test
  (qs_cons (qappend 2 (qtup (qa_cons (qv 7) (qa_cons (qv 8) (qa_cons (qv 3) qa_nil))))) (qforget [] qs_nil))
  (qforget [] qs_nil)) (qforget [3, 4, 5, 6, 7, 8] qs_nil))))
  (qfrz 2 (qs_one (qret (qv 2)))))))
theorem ok_wrong_within (T : Tb K mg α) (I : Ok P w K mg base α S n) : FnOk P w K mg base CX0 (n + 1 + 1) α.a_wrong_within α.d_wrong_within ["blocks", "links"] (spD S [true, false] (f_wrong_within (n + 1))) :=
  fn_ok [true, false] T.F_wrong_within sc_wrong_within rfl fun cdv A outer s H E hr =>
  (qforget [2, 3, 4, 5, 6] (qs_cons (qfor [2, 4, 5, 6] (qi_enum imForOk (by rfl) T.z_enumerate (qv 1).xf) (qgt 2 (qgs_cons (qgv 2 sc_wrong_within.nd) (qgs_cons (qgt 3 (qgs_cons (qgv 4 sc_wrong_within.nd) (qgs_cons (qgv 5 sc_wrong_within.nd) (qgs_cons (qgv 6 sc_wrong_within.nd) qgs_nil)))) qgs_nil)))
  (qs_cons (qset 3 sc_wrong_within.nd (qix (hu1 hr) (qvb 0) (qcall I.block_with hr (by rfl) T.m_block_with T.F_block_with.kp T.b_block_with (qam_b (qvb 0) (qam_b (qvb 5) qam_nil))).b))
  (qs_cons (qif (qw_and (qtcmp (o_eq (hu64 hr)) (qvb 4) (qstr s_ahead).b) (qw_and (qtcmp (o_inX (hu65 hr)) (qvb 6) (qvb 3)) (qw_and1 (qtcmp o_ge (qindex (hu65 hr) (qvb 3) (qvb 5)).b (qindex (hu65 hr) (qvb 3) (qvb 6)).b)))).test
  (qs_one (qret (qv 2)))
  qs_nil) (qforget [2, 3, 4, 5, 6] qs_nil))))
  (qs_one (qret qnon))))
theorem ok_ring_of (T : Tb K mg α) (I : Ok P w K mg base α S n) : FnOk P w K mg base CX0 (n + 1 + 1) α.a_ring_of α.d_ring_of ["ties", "left"] (spD S [true, true] (f_ring_of (n + 1))) :=
  fn_ok [true, true] T.F_ring_of sc_ring_of rfl fun cdv A outer s H E hr =>
  (qs_cons (qsetO 2 sc_ring_of.nd (qlst (qa_cons (qix (hu1 hr) (qvb 1) qint.b) qa_nil)))
  (qs_cons (qsetO 3 sc_ring_of.nd (qlst qa_nil))
  (qforget [4, 5] (qs_cons (qwhile 100 (qtcmp (o_notInX (hu65 hr)) (qix (hu1 hr) (qvb 2) (qneg qint.b).b).b (qsl (qvb 2) qo_none (qo_some (qneg qint.b).b)).b)
  (qs_cons (qasg [4, 5] (qix (hu1 hr) (qlc [("one", 6), ("two", 7), ("at", 8)] sc_ring_of.nd (qi_any (imCompOk _) (qvb 0).xc) (blkOk_by (N := N_ring_of) (sc := defScope s_T_ring_of) (by decide +kernel)) (fun _ _ _ _ _ => (qgt 3 (qgs_cons (qgv 6 sc_ring_of.nd) (qgs_cons (qgv 7 sc_ring_of.nd) (qgs_cons (qgv 8 sc_ring_of.nd) qgs_nil))))) (fun _ _ _ _ _ => (qts_one (qw_and (qtcmp (o_eq (hu64 hr)) (qvb 7) (qix (hu1 hr) (qvb 2) (qneg qint.b).b).b) (qw_and1 (qtcmp (o_inX (hu65 hr)) (qvb 6) (qvb 1)))).test)) (fun _ _ _ _ _ => (qtup (qa_cons (qv 6) (qa_cons (qv 8) qa_nil))))).b qint.b) (qgt 2 (qgs_cons (qgv 4 sc_ring_of.nd) (qgs_cons (qgv 5 sc_ring_of.nd) qgs_nil))))
  (qs_cons (qappend 2 (qv 4))
  (qs_cons (qappend 3 (qv 5)) (qforget [4, 5] qs_nil)))))
  (qs_one (qret (qrev (qsl (qvb 3) (qo_some (qindex (hu65 hr) (qvb 2) (qix (hu1 hr) (qvb 2) (qneg qint.b).b).b).b) qo_none).b).e))))))
theorem ok_ordered (T : Tb K mg α) (I : Ok P w K mg base α S n) : FnOk P w K mg base CX0 (n + 1 + 1) α.a_ordered α.d_ordered ["count", "links"] (spD S [true, false] (f_ordered (n + 1))) :=
  fn_ok [true, false] T.F_ordered sc_ordered rfl fun cdv A outer s H E hr =>
  (qs_cons (qset 2 sc_ordered.nd (qcall I.two_nexts hr (by rfl) T.m_two_nexts T.F_two_nexts.kp T.b_two_nexts (qam_v (qv 1) qam_nil)))
  (qs_cons (qif (qtcmp o_isNot (qvb 2) qnon.b)
  (qs_one (qret (qbin o_add (qtup (qa_cons (qstr s_two) qa_nil)).b (qvb 2))))
  qs_nil)
  (qs_cons (qset 3 sc_ordered.nd (qcall I.round_of hr (by rfl) T.m_round_of T.F_round_of.kp T.b_round_of (qam_v (qv 1) qam_nil)))
  (qs_cons (qif (qtcmp o_isNot (qvb 3) qnon.b)
  (qs_one (qret (qtup (qa_cons (qstr s_round) (qa_cons (qv 3) qa_nil)))))
  qs_nil)
  (qs_cons (qset 4 sc_ordered.nd (qcall I.blocks_of hr (by rfl) T.m_blocks_of T.F_blocks_of.kp T.b_blocks_of (qam_b (qvb 0) (qam_v (qv 1) qam_nil))))
  (qs_cons (qset 5 sc_ordered.nd (qcall I.wrong_within hr (by rfl) T.m_wrong_within T.F_wrong_within.kp T.b_wrong_within (qam_b (qvb 4) (qam_v (qv 1) qam_nil))))
  (qs_cons (qif (qtcmp o_isNot (qvb 5) qnon.b)
  (qs_one (qret (qtup (qa_cons (qstr s_ring) (qa_cons (qlst (qa_cons (qv 5) qa_nil)).e qa_nil)))))
  qs_nil)
  (qs_cons (qset 6 sc_ordered.nd (qcall I.ties_of hr (by rfl) T.m_ties_of T.F_ties_of.kp T.b_ties_of (qam_b (qvb 4) (qam_v (qv 1) qam_nil))))
  (qs_cons (qset 7 sc_ordered.nd (qlistRg1 (by rfl) (by rfl) T.z_list (by rfl) T.z_range (qcallB c_len (by rfl) T.z_len (by decide +kernel) (qab_cons (qvb 4) qab_nil)).b).e)
  (qs_cons (qset 8 sc_ordered.nd (qlst qa_nil).e)
  (qforget [9] (qs_cons (qwhile 100 (qtru (qvb 7))
  (qs_cons (qset 9 sc_ordered.nd (qlc [("at", 10)] sc_ordered.nd (qi_any (imCompOk _) (qvb 7).xc) (blkOk_by (N := N_ordered) (sc := defScope s_T_ordered) (by decide +kernel)) (fun _ _ _ _ _ => (qgv 10 sc_ordered.nd)) (fun _ _ _ _ _ => (qts_one (qt_not (qtru (qcallB (c_any (by rfl)) (by rfl) T.z_any (by decide +kernel) (qab_cons (qlc [("first", 11), ("second", 12), ("link", 13)] sc_ordered.nd (qi_any (imCompOk _) (qvb 6).xc) (by refine blkOk_by ?_; rfl) (fun _ _ _ _ _ => (qgt 3 (qgs_cons (qgv 11 sc_ordered.nd) (qgs_cons (qgv 12 sc_ordered.nd) (qgs_cons (qgv 13 sc_ordered.nd) qgs_nil))))) (fun _ _ _ _ _ => qts_nil) (fun _ _ _ _ _ => (qandV (qcmp (o_eq (hu64 hr)) (qvb 12) (qvb 10)) (qe_one (qcmp (o_inX (hu65 hr)) (qvb 11) (qvb 7)))))).b qab_nil)).b)))) (fun _ _ _ _ _ => (qv 10))).e)
  (qs_cons (qif (qt_not (qtru (qvb 9)))
  (qs_one (qret (qtup (qa_cons (qstr s_ring) (qa_cons (qcall I.ring_of hr (by rfl) T.m_ring_of T.F_ring_of.kp T.b_ring_of (qam_b (qvb 6) (qam_b (qvb 7) qam_nil))) qa_nil)))))
  qs_nil)
  (qs_cons (qset 8 sc_ordered.nd (qbin o_add (qvb 8) (qix (hu1 hr) (qvb 4) (qix (hu1 hr) (qvb 9) qint.b).b).b))
  (qs_cons (qset 7 sc_ordered.nd (qlc [("at", 10)] sc_ordered.nd (qi_any (imCompOk _) (qvb 7).xc) (blkOk_by (N := N_ordered) (sc := defScope s_T_ordered) (by decide +kernel)) (fun _ _ _ _ _ => (qgv 10 sc_ordered.nd)) (fun _ _ _ _ _ => (qts_one (qtcmp (o_ne (hu64 hr)) (qvb 10) (qix (hu1 hr) (qvb 9) qint.b).b))) (fun _ _ _ _ _ => (qv 10))).e) (qforget [9] qs_nil))))))
  (qs_one (qret (qtup (qa_cons (qstr s_order) (qa_cons (qv 8) qa_nil)))))))))))))))))
theorem ok_along (T : Tb K mg α) (I : Ok P w K mg base α S n) : FnOk P w K mg base CX0 (n + 1 + 1) α.a_along α.d_along ["links", "word"] (spD S [true, false] (f_along (n + 1))) :=
  fn_ok [true, false] T.F_along sc_along rfl fun cdv A outer s H E hr =>
  (qs_cons (qsetO 2 sc_along.nd (qlst (qa_cons (qv 1) qa_nil)))
  (qs_cons (qset 3 sc_along.nd qint)
  (qs_cons (qwhile 100 (qtcmp o_lt (qvb 3) (qcallB c_len (by rfl) T.z_len (by decide +kernel) (qab_cons (qvb 2) qab_nil)).b)
  (qs_cons (qextend 2 (qlc [("kind", 4), ("one", 5), ("two", 6)] sc_along.nd (qi_any (imCompOk _) (qvb 0).xc) (blkOk_by (N := N_along) (sc := defScope s_T_along) (by decide +kernel)) (fun _ _ _ _ _ => (qgt 3 (qgs_cons (qgv 4 sc_along.nd) (qgs_cons (qgv 5 sc_along.nd) (qgs_cons (qgv 6 sc_along.nd) qgs_nil))))) (fun _ _ _ _ _ => (qts_one (qw_and (qtcmp (o_eq (hu64 hr)) (qvb 4) (qstr tx_next).b) (qw_and (qtcmp (o_eq (hu64 hr)) (qvb 5) (qix (hu1 hr) (qvb 2) (qvb 3)).b) (qw_and1 (qtcmp (o_notInX (hu65 hr)) (qvb 6) (qvb 2))))).test)) (fun _ _ _ _ _ => (qv 6))).b)
  (qs_cons (qset 3 sc_along.nd (qbin o_add (qvb 3) qint.b)) (qforget [] qs_nil))))
  (qfrz 2 (qs_one (qret (qv 2)))))))
theorem ok_together (T : Tb K mg α) (I : Ok P w K mg base α S n) : FnOk P w K mg base CX0 (n + 1 + 1) α.a_together α.d_together ["links", "word"] (spD S [true, false] (f_together (n + 1))) :=
  fn_ok [true, false] T.F_together sc_together rfl fun cdv A outer s H E hr =>
  (qs_cons (qsetO 2 sc_together.nd (qlst (qa_cons (qv 1) qa_nil)))
  (qs_cons (qset 3 sc_together.nd qint)
  (qs_cons (qwhile 100 (qtcmp o_lt (qvb 3) (qcallB c_len (by rfl) T.z_len (by decide +kernel) (qab_cons (qvb 2) qab_nil)).b)
  (qs_cons (qextend 2 (qlc [("kind", 4), ("one", 5), ("two", 6)] sc_together.nd (qi_any (imCompOk _) (qvb 0).xc) (blkOk_by (N := N_together) (sc := defScope s_T_together) (by decide +kernel)) (fun _ _ _ _ _ => (qgt 3 (qgs_cons (qgv 4 sc_together.nd) (qgs_cons (qgv 5 sc_together.nd) (qgs_cons (qgv 6 sc_together.nd) qgs_nil))))) (fun _ _ _ _ _ => (qts_one (qw_and (qtcmp (o_eq (hu64 hr)) (qvb 4) (qstr tx_next).b) (qw_and (qtcmp (o_eq (hu64 hr)) (qvb 5) (qix (hu1 hr) (qvb 2) (qvb 3)).b) (qw_and1 (qtcmp (o_notInX (hu65 hr)) (qvb 6) (qvb 2))))).test)) (fun _ _ _ _ _ => (qv 6))).b)
  (qs_cons (qextend 2 (qlc [("kind", 4), ("one", 5), ("two", 6)] sc_together.nd (qi_any (imCompOk _) (qvb 0).xc) (blkOk_by (N := N_together) (sc := defScope s_T_together) (by decide +kernel)) (fun _ _ _ _ _ => (qgt 3 (qgs_cons (qgv 4 sc_together.nd) (qgs_cons (qgv 5 sc_together.nd) (qgs_cons (qgv 6 sc_together.nd) qgs_nil))))) (fun _ _ _ _ _ => (qts_one (qw_and (qtcmp (o_eq (hu64 hr)) (qvb 4) (qstr tx_next).b) (qw_and (qtcmp (o_eq (hu64 hr)) (qvb 6) (qix (hu1 hr) (qvb 2) (qvb 3)).b) (qw_and1 (qtcmp (o_notInX (hu65 hr)) (qvb 5) (qvb 2))))).test)) (fun _ _ _ _ _ => (qv 5))).b)
  (qs_cons (qset 3 sc_together.nd (qbin o_add (qvb 3) qint.b)) (qforget [] qs_nil)))))
  (qfrz 2 (qs_one (qret (qv 2)))))))
theorem ok_ordered_fault (T : Tb K mg α) (I : Ok P w K mg base α S n) : FnOk P w K mg base CX0 (n + 1 + 1) α.a_ordered_fault α.d_ordered_fault ["count", "links", "told"] (spD S [true, false, true] (f_ordered_fault (n + 1))) :=
  fn_ok [true, false, true] T.F_ordered_fault sc_ordered_fault rfl fun cdv A outer s H E hr =>
  (qs_cons (qif (qtcmp (o_eq (hu64 hr)) (qix (hu1 hr) (qvb 2) qint.b).b (qstr s_order).b)
  (qs_cons (qset 5 sc_ordered_fault.nd (qix (hu1 hr) (qvb 2) qint.b))
  (qs_cons (qif (qtcmp (o_ne (hu64 hr)) (qcallBF (c_sorted (hu64 hr)) (by rfl) T.z_sorted (by decide +kernel) (qab_cons (qvb 5) qab_nil)).b (qlistRg1 (by rfl) (by rfl) T.z_list (by rfl) T.z_range (qvb 0)).b)
  (qs_one (qret (qtup (qa_cons (qstr s_words) qa_nil))))
  qs_nil)
  (qforget [4, 7, 11, 12, 13, 14] (qs_cons (qfor [7, 4, 11, 12] (qi_enum imForOk (by rfl) T.z_enumerate (qv 1).xf) (qgt 2 (qgs_cons (qgv 7 sc_ordered_fault.nd) (qgs_cons (qgt 3 (qgs_cons (qgv 4 sc_ordered_fault.nd) (qgs_cons (qgv 11 sc_ordered_fault.nd) (qgs_cons (qgv 12 sc_ordered_fault.nd) qgs_nil)))) qgs_nil)))
  (qs_cons (qpar 13 14 sc_ordered_fault.nd (qa_cons (qindex (hu65 hr) (qvb 5) (qvb 11)) (qa_cons (qindex (hu65 hr) (qvb 5) (qvb 12)) qa_nil)))
  (qs_cons (qif (qw_or (qtcmp o_ge (qvb 13) (qvb 14)) (qw_or1 (qw_and (qtcmp (o_eq (hu64 hr)) (qvb 4) (qstr tx_next).b) (qw_and1 (qtcmp (o_ne (hu64 hr)) (qvb 14) (qbin o_add (qvb 13) qint.b).b))).test)).test
  (qs_one (qret (qtup (qa_cons (qstr s_link) (qa_cons (qv 7) qa_nil)))))
  qs_nil) (qforget [4, 7, 11, 12, 13, 14] qs_nil))))
  (qs_one (qret qnon))))))
  (qforget [4, 5, 7, 11, 12, 13, 14] qs_nil))
  (qs_cons (qif (qtcmp (o_eq (hu64 hr)) (qix (hu1 hr) (qvb 2) qint.b).b (qstr s_two).b)
  (qs_cons (qif (qt_not (qtru (qcallB (c_all (by rfl)) (by rfl) T.z_all (by decide +kernel) (qab_cons (qlc [("at", 7)] sc_ordered_fault.nd (qi_any (imCompOk _) (qsl (qvb 2) (qo_some qint.b) qo_none).b.xc) (blkOk_by (N := N_ordered_fault) (sc := defScope s_T_ordered_fault) (by decide +kernel)) (fun _ _ _ _ _ => (qgv 7 sc_ordered_fault.nd)) (fun _ _ _ _ _ => qts_nil) (fun _ _ _ _ _ => (qandV (qchain o_le o_lt qint.b (qvb 7) (qcallB c_len (by rfl) T.z_len (by decide +kernel) (qab_cons (qvb 1) qab_nil)).b) (qe_one (qcmp (o_eq (hu64 hr)) (qix (hu1 hr) (qix (hu1 hr) (qvb 1) (qvb 7)).b qint.b).b (qstr tx_next).b))))).b qab_nil)).b))
  (qs_one (qret (qtup (qa_cons (qstr s_links) qa_nil))))
  qs_nil)
  (qs_cons (qpar 9 10 sc_ordered_fault.nd (qa_cons (qix (hu1 hr) (qvb 1) (qix (hu1 hr) (qvb 2) qint.b).b) (qa_cons (qix (hu1 hr) (qvb 1) (qix (hu1 hr) (qvb 2) qint.b).b) qa_nil)))
  (qs_one (qret (qifE (qtcmp (o_ne (hu64 hr)) (qcmp (o_eq (hu64 hr)) (qix (hu1 hr) (qvb 9) qint.b).b (qix (hu1 hr) (qvb 10) qint.b).b).b (qcmp (o_eq (hu64 hr)) (qix (hu1 hr) (qvb 9) qint.b).b (qix (hu1 hr) (qvb 10) qint.b).b).b) qnon (qtup (qa_cons (qstr s_links) qa_nil)))))))
  (qforget [9, 10] qs_nil))
  (qs_cons (qset 3 sc_ordered_fault.nd (qix (hu1 hr) (qvb 2) qint.b))
  (qs_cons (qset 4 sc_ordered_fault.nd (qifE (qtcmp (o_eq (hu64 hr)) (qix (hu1 hr) (qvb 2) qint.b).b (qstr s_round).b) (qstr tx_next) (qstr s_ahead)))
  (qs_cons (qif (qw_or (qt_not (qtru (qvb 3))) (qw_or1 (qt_not (qtru (qcallB (c_all (by rfl)) (by rfl) T.z_all (by decide +kernel) (qab_cons (qlc [("at", 7)] sc_ordered_fault.nd (qi_any (imCompOk _) (qvb 3).xc) (blkOk_by (N := N_ordered_fault) (sc := defScope s_T_ordered_fault) (by decide +kernel)) (fun _ _ _ _ _ => (qgv 7 sc_ordered_fault.nd)) (fun _ _ _ _ _ => qts_nil) (fun _ _ _ _ _ => (qandV (qchain o_le o_lt qint.b (qvb 7) (qcallB c_len (by rfl) T.z_len (by decide +kernel) (qab_cons (qvb 1) qab_nil)).b) (qe_one (qcmp (o_eq (hu64 hr)) (qix (hu1 hr) (qix (hu1 hr) (qvb 1) (qvb 7)).b qint.b).b (qvb 4)))))).b qab_nil)).b)))).test
  (qs_one (qret (qtup (qa_cons (qstr s_links) qa_nil))))
  qs_nil)
  (qs_cons (qif (qw_and (qtcmp (o_eq (hu64 hr)) (qix (hu1 hr) (qvb 2) qint.b).b (qstr s_ring).b) (qw_and1 (qtcmp (o_eq (hu64 hr)) (qcallB c_len (by rfl) T.z_len (by decide +kernel) (qab_cons (qvb 3) qab_nil)).b qint.b))).test
  (qs_one (qret (qifE (qtcmp (o_inX (hu65 hr)) (qix (hu1 hr) (qix (hu1 hr) (qvb 1) (qix (hu1 hr) (qvb 3) qint.b).b).b qint.b).b (qcall I.along hr (by rfl) T.m_along T.F_along.kp T.b_along (qam_b (qvb 1) (qam_v (qix (hu1 hr) (qix (hu1 hr) (qvb 1) (qix (hu1 hr) (qvb 3) qint.b).b).b qint.b) qam_nil))).b) qnon (qtup (qa_cons (qstr s_step) (qa_cons qint qa_nil))))))
  qs_nil)
  (qforget [6, 7, 8] (qs_cons (qfor [6, 7] (qi_enum imForOk (by rfl) T.z_enumerate (qv 3).xf) (qgt 2 (qgs_cons (qgv 6 sc_ordered_fault.nd) (qgs_cons (qgv 7 sc_ordered_fault.nd) qgs_nil)))
  (qs_cons (qset 8 sc_ordered_fault.nd (qix (hu1 hr) (qix (hu1 hr) (qvb 1) (qix (hu1 hr) (qvb 3) (qbin o_sub (qvb 6) qint.b).b).b).b qint.b))
  (qs_cons (qif (qw_and (qtcmp (o_eq (hu64 hr)) (qix (hu1 hr) (qvb 2) qint.b).b (qstr s_round).b) (qw_and1 (qtcmp (o_ne (hu64 hr)) (qvb 8) (qix (hu1 hr) (qix (hu1 hr) (qvb 1) (qvb 7)).b qint.b).b))).test
  (qs_one (qret (qtup (qa_cons (qstr s_step) (qa_cons (qv 6) qa_nil)))))
  qs_nil)
  (qs_cons (qif (qw_and (qtcmp (o_eq (hu64 hr)) (qix (hu1 hr) (qvb 2) qint.b).b (qstr s_ring).b) (qw_and1 (qtcmp (o_inX (hu65 hr)) (qix (hu1 hr) (qix (hu1 hr) (qvb 1) (qvb 7)).b qint.b).b (qcall I.together hr (by rfl) T.m_together T.F_together.kp T.b_together (qam_b (qvb 1) (qam_v (qix (hu1 hr) (qix (hu1 hr) (qvb 1) (qvb 7)).b qint.b) qam_nil))).b))).test
  (qs_one (qret (qtup (qa_cons (qstr s_step) (qa_cons (qv 6) qa_nil)))))
  qs_nil)
  (qs_cons (qif (qw_and (qtcmp (o_eq (hu64 hr)) (qix (hu1 hr) (qvb 2) qint.b).b (qstr s_ring).b) (qw_and1 (qtcmp (o_notInX (hu65 hr)) (qix (hu1 hr) (qix (hu1 hr) (qvb 1) (qvb 7)).b qint.b).b (qcall I.together hr (by rfl) T.m_together T.F_together.kp T.b_together (qam_b (qvb 1) (qam_v (qv 8) qam_nil))).b))).test
  (qs_one (qret (qtup (qa_cons (qstr s_step) (qa_cons (qv 6) qa_nil)))))
  qs_nil) (qforget [6, 7, 8] qs_nil))))))
  (qs_one (qret qnon))))))))))
theorem ok_count_orders (T : Tb K mg α) (I : Ok P w K mg base α S n) : FnOk P w K mg base CX0 (n + 1 + 1) α.a_count_orders α.d_count_orders ["count", "links"] (spD S [true, false] (f_count_orders (n + 1))) :=
  fn_ok [true, false] T.F_count_orders sc_count_orders rfl fun cdv A outer s H E hr =>
  (qs_cons (qif (qtcmp (o_ne (hu64 hr)) (qix (hu1 hr) (qcall I.ordered hr (by rfl) T.m_ordered T.F_ordered.kp T.b_ordered (qam_b (qvb 0) (qam_v (qv 1) qam_nil))).b qint.b).b (qstr s_order).b)
  (qs_one (qret qint))
  qs_nil)
  (qs_cons (qset 2 sc_count_orders.nd (qcall I.blocks_of hr (by rfl) T.m_blocks_of T.F_blocks_of.kp T.b_blocks_of (qam_b (qvb 0) (qam_v (qv 1) qam_nil))))
  (qs_cons (qset 3 sc_count_orders.nd (qcall I.ties_of hr (by rfl) T.m_ties_of T.F_ties_of.kp T.b_ties_of (qam_b (qvb 2) (qam_v (qv 1) qam_nil))))
  (qs_cons (qset 4 sc_count_orders.nd (qdispN I.hS (hu64 hr) (qtup qa_nil).b qint).e)
  (qforget [5, 6, 7, 8, 9, 10] (qs_cons (qfor [5] (qi_any imForOk (qv 2).xf) (qgv 5 sc_count_orders.nd)
  (qs_cons (qsetO 6 sc_count_orders.nd (qnewN I.hS))
  (qforget [7, 8, 9, 10] (qs_cons (qfor [7, 8] (qi_itemsN imForSub I.hS (qv 4)) (qgt 2 (qgs_cons (qgv 7 sc_count_orders.nd) (qgs_cons (qgv 8 sc_count_orders.nd) qgs_nil)))
  (qforget [9, 10] (qs_cons (qfor [9] (qi_rg1 (by rfl) T.z_range (qcallB c_len (by rfl) T.z_len (by decide +kernel) (qab_cons (qvb 2) qab_nil)).b) (qgv 9 sc_count_orders.nd)
  (qs_cons (qif (qw_and (qtcmp (o_notInX (hu65 hr)) (qvb 9) (qvb 7)) (qw_and1 (qtru (qcallB (c_all (by rfl)) (by rfl) T.z_all (by decide +kernel) (qab_cons (qlc [("first", 11), ("second", 12), ("link", 13)] sc_count_orders.nd (qi_any (imCompOk _) (qvb 3).xc) (blkOk_by (N := N_count_orders) (sc := defScope s_T_count_orders) (by decide +kernel)) (fun _ _ _ _ _ => (qgt 3 (qgs_cons (qgv 11 sc_count_orders.nd) (qgs_cons (qgv 12 sc_count_orders.nd) (qgs_cons (qgv 13 sc_count_orders.nd) qgs_nil))))) (fun _ _ _ _ _ => (qts_one (qtcmp (o_eq (hu64 hr)) (qvb 12) (qvb 9)))) (fun _ _ _ _ _ => (qcmp (o_inX (hu65 hr)) (qvb 11) (qvb 7)))).b qab_nil)).b))).test
  (qs_cons (qset 10 sc_count_orders.nd (qcallT c_tuple (by rfl) T.z_tuple (by decide +kernel) (qab_cons (qcallBF (c_sortedX (hu64 hr)) (by rfl) T.z_sorted (by decide +kernel) (qab_cons (qbin o_add (qvb 7) (qtup (qa_cons (qv 9) qa_nil)).b).b qab_nil)).b qab_nil)))
  (qs_cons (qputN 6 I.hS (hu64 hr) (qvb 10) (qbin o_add (qgetN I.hS (hu64 hr) (qvb 6) (qvb 10) qint).b (qvb 8))) (qforget [10] qs_nil)))
  (qforget [10] qs_nil)) (qforget [9, 10] qs_nil))) (qforget [7, 8, 9, 10] qs_nil))))
  (qfrz 6 (qs_cons (qset 4 sc_count_orders.nd (qv 6)) (qforget [5, 6, 7, 8, 9, 10] qs_nil)))))))
  (qs_one (qret (qcallB (c_sum (by rfl)) (by rfl) T.z_sum (by decide +kernel) (qab_cons (qlc [("key", 10)] sc_count_orders.nd (qi_keysN (imCompSub _) I.hS (qv 4)) (blkOk_by (N := N_count_orders) (sc := defScope s_T_count_orders) (by decide +kernel)) (fun _ _ _ _ _ => (qgv 10 sc_count_orders.nd)) (fun _ _ _ _ _ => qts_nil) (fun _ _ _ _ _ => (qixN I.hS (hu64 hr) (qvb 4) (qvb 10)))).b qab_nil))))))))))
theorem ok_law_take (T : Tb K mg α) : FnOk P w K mg base CX0 1 α.a_law_take α.d_law_take ["state", "most"] (spTake S) := by
  refine T.F_law_take.ok sc_law_take (fun vs H Q E h => ?_) (fun cdv A outer s H vs Q E hr h => ⟨tTake K, pss_cons (ps_set (i := 2) sc_law_take.nd rfl (Or.inl rfl) (pe_ix ix_seq (pv 0) pe_int fun _ _ => rfl))
    (pss_cons (ps_set (i := 3) sc_law_take.nd rfl (Or.inl rfl) (pe_op op_mod (pe_ix ix_seq (pv 0) pe_int fun _ _ => rfl) (pe_callB call_len rfl T.z_len boot_len (pa_cons (pv 2) pa_nil))))
    (pss_cons (ps_set (i := 4) sc_law_take.nd rfl (Or.inl rfl) (pe_ix ix_seq (pv 2) (pv 3) fun _ _ => rfl))
    (pss_cons (ps_if (pt_cmpR op_ge (pv 4) pe_int (nomark _))
      (pss_cons (ps_asg (pe_op op_fdiv (pv 4) (pv 1)) (pg_sub (pv 2) (pv 3) set_list (by intro _; rfl)) (by rfl) (by rfl) (by rfl)) (pss_one (ps_ret (pe_op op_mod (pv 4) (pv 1)))))
      pss_nil)
    (pss_cons (ps_asg (pe_op op_add (pe_ix ix_seq (pv 0) pe_int fun _ _ => rfl) pe_int) (pg_sub (pv 0) pe_int set_list (by intro _; rfl)) (by rfl) (by rfl) (by rfl))
    (pss_cons (ps_set (i := 5) sc_law_take.nd rfl (Or.inl rfl) (pe_op op_mod (pe_callTy call_int1 rfl T.z_int (by decide +kernel) (pa_cons (pe_op op_add (pe_op op_mul (pv 4) pe_int) (pe_op op_mul (pe_ix ix_seq (pv 0) pe_int fun _ _ => rfl) pe_int)) pa_nil)) pe_int))
    (pss_cons (ps_set (i := 5) sc_law_take.nd rfl (Or.inl rfl) (pe_op op_mod (pe_callTy call_int1 rfl T.z_int (by decide +kernel) (pa_cons (pe_op op_add (pe_op op_mul (pv 5) pe_int) (pe_op op_mul (pe_ix ix_seq (pv 0) pe_int fun _ _ => rfl) pe_int)) pa_nil)) pe_int))
    (pss_one (ps_ret (pe_op op_mod (pe_op op_fdiv (pv 5) pe_int) (pv 1)))))))))), take_run h⟩)
  obtain ⟨k, rfl, _⟩ := h; rfl
theorem ok_law_state (T : Tb K mg α) : FnOk P w K mg base CX0 1 α.a_law_state α.d_law_state ["script"] (spState K) := by
  refine T.F_law_state.ok sc_law_state (fun vs H Q E h => ?_) (fun cdv A outer s H vs Q E hr h => ⟨tState K, pss_cons (ps_setLc (i := 1) (own := [("cell", 2)]) (g := gName 2) (tt := tYes) rfl sc_law_state.nd rfl rfl (sw_true rfl rfl rfl (by decide +kernel)) (pi_list (pe_slice sl_list (pv 0) po_none (po_some pe_int))) (blkOk_by (N := N_law_state) (sc := defScope s_T_law_state) (by decide +kernel)) (fun _ _ _ _ _ => pg_name (i := 2) sc_law_state.nd rfl (Or.inl rfl)) (fun _ _ _ _ _ => pts_nil) (fun _ _ _ _ _ => pe_callB call_abs rfl T.z_abs (by decide +kernel) (pa_cons (pv 2) pa_nil)))
    (pss_cons (ps_if (pt_cmpR op_eq (pe_callB call_len rfl T.z_len boot_len (pa_cons (pv 1) pa_nil)) pe_int (nomark _)) (pss_one (ps_set (i := 1) sc_law_state.nd rfl (Or.inl rfl) (pe_lst (pa_cons pe_int pa_nil)))) pss_nil)
    (pss_one (ps_ret (pe_lst (pa_cons pe_int (pa_cons (pv 1) pa_nil)))))), state_run h⟩)
  obtain ⟨a, ns, rfl, _⟩ := h; rfl
theorem ok_law (T : Tb K mg α) (I : ∀ S : SA, S.pr = P ∧ S.wd = w → Ok P w K mg base α S n) (hm : (b_law n (none :: some (.val .stt) :: List.replicate 18 none)).wp fun r => r.1 = .rt (.bl true)) : FnOk P w K mg base CX0 (n + 1 + 1) α.a_law α.d_law ["script"] (spLawD K) := by
  refine T.F_law.ok sc_law (fun vs H Q E h => ?_) (fun cdv A outer s H vs Q E hr h => ⟨tSeq (tAsg (tCall (spState K) [] E0 (tCons (tVar 0) tNil)) (gName 1)) (TA_ P w (b_law n)), pss_cons (ps_set (i := 1) sc_law.nd rfl (Or.inr rfl) (pe_call ((ok_law_state T).mono (by omega)) hr rfl T.m_law_state T.F_law_state.kp T.b_law_state .nil pass0 (pa_cons (pv 0) pa_nil))) (pss_any fun S hS => by
      have I := I S hS
      exact (qs_cons (qset 2 sc_law.nd (qbin o_add qint.b (qcall I.law_take hr (by rfl) T.m_law_take T.F_law_take.kp T.b_law_take (qam_v (qv 1) (qam_v qint qam_nil))).b))
  (qs_cons (qset 3 sc_law.nd (qlc [("k", 8)] sc_law.nd (qi_rg1 (by rfl) T.z_range (qvb 2)) (blkOk_by (N := N_law) (sc := defScope s_T_law) (by decide +kernel)) (fun _ _ _ _ _ => (qgv 8 sc_law.nd)) (fun _ _ _ _ _ => qts_nil) (fun _ _ _ _ _ => (qtup (qa_cons (qix (hu1 hr) (qlst (qa_cons (qstr s_all) (qa_cons (qstr s_some) qa_nil))).b (qcall I.law_take hr (by rfl) T.m_law_take T.F_law_take.kp T.b_law_take (qam_v (qv 1) (qam_v qint qam_nil))).b) (qa_cons (qix (hu1 hr) (qstr s_xyzw).b (qvb 8)) qa_nil))))).e)
  (qs_cons (qsetLcV 4 [("phrase", 18)] sc_law.nd (qi_any (imCompOk _) (qvb 3).xc) (blkOk_by (N := N_law) (sc := defScope s_T_law) (by decide +kernel)) (fun _ _ _ _ _ => (qgv 18 sc_law.nd)) (fun _ _ _ _ _ => qts_nil) (fun _ _ _ _ _ => qnon) (sw_true rfl rfl rfl (by decide +kernel)))
  (qs_cons (qset 5 sc_law.nd (qcall I.orders_of hr (by rfl) T.m_orders_of T.F_orders_of.kp T.b_orders_of (qam_v (qv 3) (qam_b (qvb 4) qam_nil))))
  (qs_cons (qset 6 sc_law.nd (qix (hu1 hr) (qvb 5) (qcall I.law_take hr (by rfl) T.m_law_take T.F_law_take.kp T.b_law_take (qam_v (qv 1) (qam_v (qcallB c_len (by rfl) T.z_len (by decide +kernel) (qab_cons (qvb 5) qab_nil)) qam_nil))).b))
  (qs_cons (qset 7 sc_law.nd (qlc [("k", 8)] sc_law.nd (qi_any (imCompOk _) (qvb 6).xc) (blkOk_by (N := N_law) (sc := defScope s_T_law) (by decide +kernel)) (fun _ _ _ _ _ => (qgv 8 sc_law.nd)) (fun _ _ _ _ _ => qts_nil) (fun _ _ _ _ _ => (qix (hu1 hr) (qvb 3) (qvb 8)))).e)
  (qs_cons (qparN 12 13 sc_law.nd)
  (qforget [8, 14] (qs_cons (qfor [8] (qi_rg1 (by rfl) T.z_range (qvb 2)) (qgv 8 sc_law.nd)
  (qforget [14] (qs_cons (qfor [14] (qi_rg2 (by rfl) T.z_range (qbin o_add (qvb 8) qint.b).b (qvb 2)) (qgv 14 sc_law.nd)
  (qs_cons (qif (qtcmp (o_ne (hu64 hr)) (qix (hu1 hr) (qix (hu1 hr) (qvb 3) (qix (hu1 hr) (qvb 6) (qvb 8)).b).b qint.b).b (qix (hu1 hr) (qix (hu1 hr) (qvb 3) (qix (hu1 hr) (qvb 6) (qvb 14)).b).b qint.b).b)
  (qs_cons (qappend 12 (qtup (qa_cons (qstr s_ahead) (qa_cons (qix (hu1 hr) (qvb 6) (qvb 8)) (qa_cons (qix (hu1 hr) (qvb 6) (qvb 14)) qa_nil)))))
  (qs_cons (qif (qtcmp (o_eq (hu64 hr)) (qix (hu1 hr) (qix (hu1 hr) (qvb 3) (qix (hu1 hr) (qvb 6) (qvb 8)).b).b qint.b).b (qstr s_all).b)
  (qs_cons (qappend 13 (qtup (qa_cons (qstr s_ahead) (qa_cons (qix (hu1 hr) (qvb 6) (qvb 8)) (qa_cons (qix (hu1 hr) (qvb 6) (qvb 14)) qa_nil))))) (qforget [] qs_nil))
  (qforget [] qs_nil)) (qforget [] qs_nil)))
  (qforget [] qs_nil)) (qforget [14] qs_nil))) (qforget [8, 14] qs_nil))))
  (qs_cons (qasg [15, 16] (qtup (qa_cons qint (qa_cons qint qa_nil))) (qgt 2 (qgs_cons (qgv 15 sc_law.nd) (qgs_cons (qgv 16 sc_law.nd) qgs_nil))))
  (qforget [9, 11, 17] (qs_cons (qfor [9] (qi_any imForOk (qv 5).xf) (qgv 9 sc_law.nd)
  (qs_cons (qsetLcV 17 [("k", 8)] sc_law.nd (qi_any (imCompOk _) (qvb 9).xc) (blkOk_by (N := N_law) (sc := defScope s_T_law) (by decide +kernel)) (fun _ _ _ _ _ => (qgv 8 sc_law.nd)) (fun _ _ _ _ _ => qts_nil) (fun _ _ _ _ _ => (qix (hu1 hr) (qvb 3) (qvb 8))) (sw_true rfl rfl rfl (by decide +kernel)))
  (qs_cons (qset 11 sc_law.nd (qcall I.entails hr (by rfl) T.m_entails T.F_entails.kp T.b_entails (qam_v (qv 17) (qam_b (qvb 7) qam_nil))))
  (qs_cons (qif (qtcmp o_isNot (qcall I.entails_fault hr (by rfl) T.m_entails_fault T.F_entails_fault.kp T.b_entails_fault (qam_b (qvb 17) (qam_b (qvb 7) (qam_b (qvb 11) qam_nil)))).b qnon.b)
  (qs_one (qret qbl))
  qs_nil)
  (qs_cons (qset 15 sc_law.nd (qbin o_add (qvb 15) (qcallT c_int (by rfl) T.z_int (by decide +kernel) (qab_cons (qcall I.are_alike hr (by rfl) T.m_are_alike T.F_are_alike.kp T.b_are_alike (qam_v (qv 17) (qam_v (qv 7) qam_nil))).b qab_nil)).b))
  (qs_cons (qset 11 sc_law.nd (qcall I.entails hr (by rfl) T.m_entails T.F_entails.kp T.b_entails (qam_v (qv 7) (qam_b (qvb 17) qam_nil))))
  (qs_cons (qif (qtcmp o_isNot (qcall I.entails_fault hr (by rfl) T.m_entails_fault T.F_entails_fault.kp T.b_entails_fault (qam_b (qvb 7) (qam_b (qvb 17) (qam_b (qvb 11) qam_nil)))).b qnon.b)
  (qs_one (qret qbl))
  qs_nil)
  (qs_cons (qset 16 sc_law.nd (qbin o_add (qvb 16) (qcallT c_int (by rfl) T.z_int (by decide +kernel) (qab_cons (qcmp (o_eq (hu64 hr)) (qix (hu1 hr) (qvb 11) qint.b).b (qstr s_swaps).b).b qab_nil)).b)) (qforget [9, 11, 17] qs_nil)))))))))
  (qfrz 12 (qfrz 13 (qs_cons (qif (qw_or (qtcmp (o_ne (hu64 hr)) (qvb 15) (qcall I.count_orders hr (by rfl) T.m_count_orders T.F_count_orders.kp T.b_count_orders (qam_b (qvb 2) (qam_v (qv 12) qam_nil))).b) (qw_or1 (qtcmp (o_ne (hu64 hr)) (qvb 16) (qcall I.count_orders hr (by rfl) T.m_count_orders T.F_count_orders.kp T.b_count_orders (qam_b (qvb 2) (qam_v (qv 13) qam_nil))).b))).test
  (qs_one (qret qbl))
  qs_nil)
  (qs_cons (qset 10 sc_law.nd (qcall I.readings_of hr (by rfl) T.m_readings_of T.F_readings_of.kp T.b_readings_of (qam_v (qv 3) (qam_b (qvb 4) qam_nil))))
  (qs_cons (qif (qw_or (qtcmp (o_ne (hu64 hr)) (qcallB (c_sum (by rfl)) (by rfl) T.z_sum (by decide +kernel) (qab_cons (qlc [("row", 17), ("number", 19)] sc_law.nd (qi_any (imCompOk _) (qvb 10).xc) (blkOk_by (N := N_law) (sc := defScope s_T_law) (by decide +kernel)) (fun _ _ _ _ _ => (qgt 2 (qgs_cons (qgv 17 sc_law.nd) (qgs_cons (qgv 19 sc_law.nd) qgs_nil)))) (fun _ _ _ _ _ => qts_nil) (fun _ _ _ _ _ => (qv 19))).b qab_nil)).b (qcallB c_len (by rfl) T.z_len (by decide +kernel) (qab_cons (qvb 5) qab_nil)).b) (qw_or1 (qtcmp (o_ne (hu64 hr)) (qlc [("row", 17), ("number", 19)] sc_law.nd (qi_any (imCompOk _) (qvb 10).xc) (blkOk_by (N := N_law) (sc := defScope s_T_law) (by decide +kernel)) (fun _ _ _ _ _ => (qgt 2 (qgs_cons (qgv 17 sc_law.nd) (qgs_cons (qgv 19 sc_law.nd) qgs_nil)))) (fun _ _ _ _ _ => (qts_one (qtcmp (o_eq (hu64 hr)) (qvb 17) (qcall I.plain_form hr (by rfl) T.m_plain_form T.F_plain_form.kp T.b_plain_form (qam_b (qvb 7) qam_nil)).b))) (fun _ _ _ _ _ => (qv 19))).b (qlst (qa_cons (qv 15) qa_nil)).b))).test
  (qs_one (qret qbl))
  qs_nil)
  (qfrz 12 (qs_cons (qset 11 sc_law.nd (qcall I.ordered hr (by rfl) T.m_ordered T.F_ordered.kp T.b_ordered (qam_b (qvb 2) (qam_v (qv 12) qam_nil))))
  (qfrz 12 (qs_cons (qif (qw_or (qtcmp (o_ne (hu64 hr)) (qix (hu1 hr) (qvb 11) qint.b).b (qstr s_order).b) (qw_or (qtcmp o_isNot (qcall I.ordered_fault hr (by rfl) T.m_ordered_fault T.F_ordered_fault.kp T.b_ordered_fault (qam_b (qvb 2) (qam_v (qv 12) (qam_b (qvb 11) qam_nil)))).b qnon.b) (qw_or1 (qtcmp o_isNot (qcall I.ordered_fault hr (by rfl) T.m_ordered_fault T.F_ordered_fault.kp T.b_ordered_fault (qam_b (qvb 2) (qam_v (qv 12) (qam_b (qtup (qa_cons (qstr s_order) (qa_cons (qv 6) qa_nil))).b qam_nil)))).b qnon.b)))).test
  (qs_one (qret qbl))
  qs_nil)
  (qs_one (qret (qcall I.are_alike hr (by rfl) T.m_are_alike T.F_are_alike.kp T.b_are_alike (qam_v (qlc [("k", 8)] sc_law.nd (qi_any (imCompOk _) (qix (hu1 hr) (qvb 11) qint.b).b.xc) (blkOk_by (N := N_law) (sc := defScope s_T_law) (by decide +kernel)) (fun _ _ _ _ _ => (qgv 8 sc_law.nd)) (fun _ _ _ _ _ => qts_nil) (fun _ _ _ _ _ => (qix (hu1 hr) (qvb 3) (qvb 8)))).e (qam_v (qv 7) qam_nil))))))))))))))))))))))))))), law_run (k := 18) rfl hm h⟩)
  obtain ⟨a, ns, rfl, _⟩ := h; rfl
theorem ok_all (T : Tb K mg α) (S : SA) (hS : S.pr = P ∧ S.wd = w) : ∀ n, Ok P w K mg base α S n
  | 0 => ⟨hS, fn_zero, fn_zero, fn_zero, fn_zero, fn_zero, fn_zero, fn_zero, fn_zero, fn_zero, fn_zero, fn_zero, fn_zero, fn_zero, fn_zero, fn_zero, fn_zero, fn_zero, fn_zero, fn_zero, fn_zero, fn_zero, fn_zero, fn_zero, take_fn ((ok_law_take T).mono (by omega))⟩
  | n + 1 => ⟨hS, ok_parting_pair T (ok_all T S hS n), ok_entails T (ok_all T S hS n), ok_swapped T (ok_all T S hS n), ok_entails_fault T (ok_all T S hS n), ok_are_alike T (ok_all T S hS n), ok_plain_form T (ok_all T S hS n), ok_orders_of T (ok_all T S hS n), ok_is_in T (ok_all T S hS n), ok_first_between T (ok_all T S hS n), ok_readings_of T (ok_all T S hS n), ok_two_nexts T (ok_all T S hS n), ok_next_of T (ok_all T S hS n), ok_round_of T (ok_all T S hS n), ok_blocks_of T (ok_all T S hS n), ok_block_with T (ok_all T S hS n), ok_ties_of T (ok_all T S hS n), ok_wrong_within T (ok_all T S hS n), ok_ordered T (ok_all T S hS n), ok_ring_of T (ok_all T S hS n), ok_ordered_fault T (ok_all T S hS n), ok_along T (ok_all T S hS n), ok_together T (ok_all T S hS n), ok_count_orders T (ok_all T S hS n), take_fn ((ok_law_take T).mono (by omega))⟩
end
/-! ### the head -/
def fn : List He.DefD := [dd "parting_pair" s_T_parting_pair, dd "entails" s_T_entails, dd "swapped" s_T_swapped, dd "entails_fault" s_T_entails_fault, dd "are_alike" s_T_are_alike, dd "plain_form" s_T_plain_form, dd "orders_of" s_T_orders_of, dd "is_in" s_T_is_in, dd "first_between" s_T_first_between, dd "readings_of" s_T_readings_of, dd "two_nexts" s_T_two_nexts, dd "next_of" s_T_next_of, dd "round_of" s_T_round_of, dd "blocks_of" s_T_blocks_of, dd "block_with" s_T_block_with, dd "ties_of" s_T_ties_of, dd "wrong_within" s_T_wrong_within, dd "ordered" s_T_ordered, dd "ring_of" s_T_ring_of, dd "ordered_fault" s_T_ordered_fault, dd "along" s_T_along, dd "together" s_T_together, dd "count_orders" s_T_count_orders, dd "_law_state" s_T_law_state, dd "_law_take" s_T_law_take, dd "law" s_T_law]
def fa : List He.Fa := [.glo "parting_pair", .glo "entails", .glo "swapped", .glo "entails_fault", .glo "are_alike", .glo "plain_form", .glo "orders_of", .glo "is_in", .glo "first_between", .glo "readings_of", .glo "two_nexts", .glo "next_of", .glo "round_of", .glo "blocks_of", .glo "block_with", .glo "ties_of", .glo "wrong_within", .glo "ordered", .glo "ring_of", .glo "ordered_fault", .glo "along", .glo "together", .glo "count_orders", .glo "_law_state", .glo "_law_take", .glo "law", .free "abs", .free "all", .free "any", .free "enumerate", .free "int", .free "len", .free "list", .free "range", .free "sorted", .free "sum", .free "tuple"]
abbrev R : PySem.W.OpenRow := PySem.W.OpenLaw.row PySem.Challenge.rw_wordkinds_k84_orders_that_say_the_same
abbrev hk : PySem.W.Hook := He.hookD 4 fa fn
def ob (s : PySem.W.SharedT) : He.AlD := He.obsDG 4 fa fn (HandSHeadRun.getT s)
theorem ob_eq (s : PySem.W.SharedT) : ob s = hk.obs s.abs := He.obsDG_eq (HandSHeadRun.getT_eq s)
abbrev loose : List PySem.Str := ["parting_pair", "entails", "swapped", "entails_fault", "are_alike", "plain_form", "orders_of", "is_in", "first_between", "readings_of", "two_nexts", "next_of", "round_of", "blocks_of", "block_with", "ties_of", "wrong_within", "ordered", "ring_of", "ordered_fault", "along", "together", "count_orders", "_law_state", "_law_take"]
theorem run (w : World) : HandSHeadRun.RunEq R (PySem.W.view R.prog [28]) hk ob 4000 loose w := by
  intro os
  kernel_rfl
theorem tb_of {K : PySem.W.Frag} {h : Heap} {mg : Str → Option Value} (X : K.In h) (G : h.Ns mainGlobals mg) (c : He.SaysD fa fn K) : ∃ α, Tb K mg α := by
  obtain ⟨fd0, F0⟩ := c.def_ 0 (d := dd "parting_pair" s_T_parting_pair) rfl
  have U0 : L2.Fun K "parting_pair" "parting_pair" s_T_parting_pair _ fd0 := fun_of F0
  obtain ⟨fd1, F1⟩ := c.def_ 1 (d := dd "entails" s_T_entails) rfl
  have U1 : L2.Fun K "entails" "entails" s_T_entails _ fd1 := fun_of F1
  obtain ⟨fd2, F2⟩ := c.def_ 2 (d := dd "swapped" s_T_swapped) rfl
  have U2 : L2.Fun K "swapped" "swapped" s_T_swapped _ fd2 := fun_of F2
  obtain ⟨fd3, F3⟩ := c.def_ 3 (d := dd "entails_fault" s_T_entails_fault) rfl
  have U3 : L2.Fun K "entails_fault" "entails_fault" s_T_entails_fault _ fd3 := fun_of F3
  obtain ⟨fd4, F4⟩ := c.def_ 4 (d := dd "are_alike" s_T_are_alike) rfl
  have U4 : L2.Fun K "are_alike" "are_alike" s_T_are_alike _ fd4 := fun_of F4
  obtain ⟨fd5, F5⟩ := c.def_ 5 (d := dd "plain_form" s_T_plain_form) rfl
  have U5 : L2.Fun K "plain_form" "plain_form" s_T_plain_form _ fd5 := fun_of F5
  obtain ⟨fd6, F6⟩ := c.def_ 6 (d := dd "orders_of" s_T_orders_of) rfl
  have U6 : L2.Fun K "orders_of" "orders_of" s_T_orders_of _ fd6 := fun_of F6
  obtain ⟨fd7, F7⟩ := c.def_ 7 (d := dd "is_in" s_T_is_in) rfl
  have U7 : L2.Fun K "is_in" "is_in" s_T_is_in _ fd7 := fun_of F7
  obtain ⟨fd8, F8⟩ := c.def_ 8 (d := dd "first_between" s_T_first_between) rfl
  have U8 : L2.Fun K "first_between" "first_between" s_T_first_between _ fd8 := fun_of F8
  obtain ⟨fd9, F9⟩ := c.def_ 9 (d := dd "readings_of" s_T_readings_of) rfl
  have U9 : L2.Fun K "readings_of" "readings_of" s_T_readings_of _ fd9 := fun_of F9
  obtain ⟨fd10, F10⟩ := c.def_ 10 (d := dd "two_nexts" s_T_two_nexts) rfl
  have U10 : L2.Fun K "two_nexts" "two_nexts" s_T_two_nexts _ fd10 := fun_of F10
  obtain ⟨fd11, F11⟩ := c.def_ 11 (d := dd "next_of" s_T_next_of) rfl
  have U11 : L2.Fun K "next_of" "next_of" s_T_next_of _ fd11 := fun_of F11
  obtain ⟨fd12, F12⟩ := c.def_ 12 (d := dd "round_of" s_T_round_of) rfl
  have U12 : L2.Fun K "round_of" "round_of" s_T_round_of _ fd12 := fun_of F12
  obtain ⟨fd13, F13⟩ := c.def_ 13 (d := dd "blocks_of" s_T_blocks_of) rfl
  have U13 : L2.Fun K "blocks_of" "blocks_of" s_T_blocks_of _ fd13 := fun_of F13
  obtain ⟨fd14, F14⟩ := c.def_ 14 (d := dd "block_with" s_T_block_with) rfl
  have U14 : L2.Fun K "block_with" "block_with" s_T_block_with _ fd14 := fun_of F14
  obtain ⟨fd15, F15⟩ := c.def_ 15 (d := dd "ties_of" s_T_ties_of) rfl
  have U15 : L2.Fun K "ties_of" "ties_of" s_T_ties_of _ fd15 := fun_of F15
  obtain ⟨fd16, F16⟩ := c.def_ 16 (d := dd "wrong_within" s_T_wrong_within) rfl
  have U16 : L2.Fun K "wrong_within" "wrong_within" s_T_wrong_within _ fd16 := fun_of F16
  obtain ⟨fd17, F17⟩ := c.def_ 17 (d := dd "ordered" s_T_ordered) rfl
  have U17 : L2.Fun K "ordered" "ordered" s_T_ordered _ fd17 := fun_of F17
  obtain ⟨fd18, F18⟩ := c.def_ 18 (d := dd "ring_of" s_T_ring_of) rfl
  have U18 : L2.Fun K "ring_of" "ring_of" s_T_ring_of _ fd18 := fun_of F18
  obtain ⟨fd19, F19⟩ := c.def_ 19 (d := dd "ordered_fault" s_T_ordered_fault) rfl
  have U19 : L2.Fun K "ordered_fault" "ordered_fault" s_T_ordered_fault _ fd19 := fun_of F19
  obtain ⟨fd20, F20⟩ := c.def_ 20 (d := dd "along" s_T_along) rfl
  have U20 : L2.Fun K "along" "along" s_T_along _ fd20 := fun_of F20
  obtain ⟨fd21, F21⟩ := c.def_ 21 (d := dd "together" s_T_together) rfl
  have U21 : L2.Fun K "together" "together" s_T_together _ fd21 := fun_of F21
  obtain ⟨fd22, F22⟩ := c.def_ 22 (d := dd "count_orders" s_T_count_orders) rfl
  have U22 : L2.Fun K "count_orders" "count_orders" s_T_count_orders _ fd22 := fun_of F22
  obtain ⟨fd23, F23⟩ := c.def_ 23 (d := dd "_law_state" s_T_law_state) rfl
  have U23 : L2.Fun K "_law_state" "_law_state" s_T_law_state _ fd23 := fun_of F23
  obtain ⟨fd24, F24⟩ := c.def_ 24 (d := dd "_law_take" s_T_law_take) rfl
  have U24 : L2.Fun K "_law_take" "_law_take" s_T_law_take _ fd24 := fun_of F24
  obtain ⟨fd25, F25⟩ := c.def_ 25 (d := dd "law" s_T_law) rfl
  have U25 : L2.Fun K "law" "law" s_T_law _ fd25 := fun_of F25
  exact ⟨⟨_, fd0, _, fd1, _, fd2, _, fd3, _, fd4, _, fd5, _, fd6, _, fd7, _, fd8, _, fd9, _, fd10, _, fd11, _, fd12, _, fd13, _, fd14, _, fd15, _, fd16, _, fd17, _, fd18, _, fd19, _, fd20, _, fd21, _, fd22, _, fd23, _, fd24, _, fd25⟩, {
    F_parting_pair := U0,
    b_parting_pair := U0.binds (ps := ["one", "other"]) fun _ _ _ _ _ _ us hl => match us, hl with | [_, _], _ => rfl,
    m_parting_pair := He.glo_ok X G (c.fact 0 (f := .glo "parting_pair") rfl),
    F_entails := U1,
    b_entails := U1.binds (ps := ["one", "other"]) fun _ _ _ _ _ _ us hl => match us, hl with | [_, _], _ => rfl,
    m_entails := He.glo_ok X G (c.fact 1 (f := .glo "entails") rfl),
    F_swapped := U2,
    b_swapped := U2.binds (ps := ["prefix", "place"]) fun _ _ _ _ _ _ us hl => match us, hl with | [_, _], _ => rfl,
    m_swapped := He.glo_ok X G (c.fact 2 (f := .glo "swapped") rfl),
    F_entails_fault := U3,
    b_entails_fault := U3.binds (ps := ["one", "other", "told"]) fun _ _ _ _ _ _ us hl => match us, hl with | [_, _, _], _ => rfl,
    m_entails_fault := He.glo_ok X G (c.fact 3 (f := .glo "entails_fault") rfl),
    F_are_alike := U4,
    b_are_alike := U4.binds (ps := ["one", "other"]) fun _ _ _ _ _ _ us hl => match us, hl with | [_, _], _ => rfl,
    m_are_alike := He.glo_ok X G (c.fact 4 (f := .glo "are_alike") rfl),
    F_plain_form := U5,
    b_plain_form := U5.binds (ps := ["prefix"]) fun _ _ _ _ _ _ us hl => match us, hl with | [_], _ => rfl,
    m_plain_form := He.glo_ok X G (c.fact 5 (f := .glo "plain_form") rfl),
    F_orders_of := U6,
    b_orders_of := U6.binds (ps := ["phrases", "hosts"]) fun _ _ _ _ _ _ us hl => match us, hl with | [_, _], _ => rfl,
    m_orders_of := He.glo_ok X G (c.fact 6 (f := .glo "orders_of") rfl),
    F_is_in := U7,
    b_is_in := U7.binds (ps := ["hosts", "phrase", "host"]) fun _ _ _ _ _ _ us hl => match us, hl with | [_, _, _], _ => rfl,
    m_is_in := He.glo_ok X G (c.fact 7 (f := .glo "is_in") rfl),
    F_first_between := U8,
    b_first_between := U8.binds (ps := ["order", "hosts"]) fun _ _ _ _ _ _ us hl => match us, hl with | [_, _], _ => rfl,
    m_first_between := He.glo_ok X G (c.fact 8 (f := .glo "first_between") rfl),
    F_readings_of := U9,
    b_readings_of := U9.binds (ps := ["phrases", "hosts"]) fun _ _ _ _ _ _ us hl => match us, hl with | [_, _], _ => rfl,
    m_readings_of := He.glo_ok X G (c.fact 9 (f := .glo "readings_of") rfl),
    F_two_nexts := U10,
    b_two_nexts := U10.binds (ps := ["links"]) fun _ _ _ _ _ _ us hl => match us, hl with | [_], _ => rfl,
    m_two_nexts := He.glo_ok X G (c.fact 10 (f := .glo "two_nexts") rfl),
    F_next_of := U11,
    b_next_of := U11.binds (ps := ["links", "word"]) fun _ _ _ _ _ _ us hl => match us, hl with | [_, _], _ => rfl,
    m_next_of := He.glo_ok X G (c.fact 11 (f := .glo "next_of") rfl),
    F_round_of := U12,
    b_round_of := U12.binds (ps := ["links"]) fun _ _ _ _ _ _ us hl => match us, hl with | [_], _ => rfl,
    m_round_of := He.glo_ok X G (c.fact 12 (f := .glo "round_of") rfl),
    F_blocks_of := U13,
    b_blocks_of := U13.binds (ps := ["count", "links"]) fun _ _ _ _ _ _ us hl => match us, hl with | [_, _], _ => rfl,
    m_blocks_of := He.glo_ok X G (c.fact 13 (f := .glo "blocks_of") rfl),
    F_block_with := U14,
    b_block_with := U14.binds (ps := ["blocks", "word"]) fun _ _ _ _ _ _ us hl => match us, hl with | [_, _], _ => rfl,
    m_block_with := He.glo_ok X G (c.fact 14 (f := .glo "block_with") rfl),
    F_ties_of := U15,
    b_ties_of := U15.binds (ps := ["blocks", "links"]) fun _ _ _ _ _ _ us hl => match us, hl with | [_, _], _ => rfl,
    m_ties_of := He.glo_ok X G (c.fact 15 (f := .glo "ties_of") rfl),
    F_wrong_within := U16,
    b_wrong_within := U16.binds (ps := ["blocks", "links"]) fun _ _ _ _ _ _ us hl => match us, hl with | [_, _], _ => rfl,
    m_wrong_within := He.glo_ok X G (c.fact 16 (f := .glo "wrong_within") rfl),
    F_ordered := U17,
    b_ordered := U17.binds (ps := ["count", "links"]) fun _ _ _ _ _ _ us hl => match us, hl with | [_, _], _ => rfl,
    m_ordered := He.glo_ok X G (c.fact 17 (f := .glo "ordered") rfl),
    F_ring_of := U18,
    b_ring_of := U18.binds (ps := ["ties", "left"]) fun _ _ _ _ _ _ us hl => match us, hl with | [_, _], _ => rfl,
    m_ring_of := He.glo_ok X G (c.fact 18 (f := .glo "ring_of") rfl),
    F_ordered_fault := U19,
    b_ordered_fault := U19.binds (ps := ["count", "links", "told"]) fun _ _ _ _ _ _ us hl => match us, hl with | [_, _, _], _ => rfl,
    m_ordered_fault := He.glo_ok X G (c.fact 19 (f := .glo "ordered_fault") rfl),
    F_along := U20,
    b_along := U20.binds (ps := ["links", "word"]) fun _ _ _ _ _ _ us hl => match us, hl with | [_, _], _ => rfl,
    m_along := He.glo_ok X G (c.fact 20 (f := .glo "along") rfl),
    F_together := U21,
    b_together := U21.binds (ps := ["links", "word"]) fun _ _ _ _ _ _ us hl => match us, hl with | [_, _], _ => rfl,
    m_together := He.glo_ok X G (c.fact 21 (f := .glo "together") rfl),
    F_count_orders := U22,
    b_count_orders := U22.binds (ps := ["count", "links"]) fun _ _ _ _ _ _ us hl => match us, hl with | [_, _], _ => rfl,
    m_count_orders := He.glo_ok X G (c.fact 22 (f := .glo "count_orders") rfl),
    F_law_state := U23,
    b_law_state := U23.binds (ps := ["script"]) fun _ _ _ _ _ _ us hl => match us, hl with | [_], _ => rfl,
    m_law_state := He.glo_ok X G (c.fact 23 (f := .glo "_law_state") rfl),
    F_law_take := U24,
    b_law_take := U24.binds (ps := ["state", "most"]) fun _ _ _ _ _ _ us hl => match us, hl with | [_, _], _ => rfl,
    m_law_take := He.glo_ok X G (c.fact 24 (f := .glo "_law_take") rfl),
    F_law := U25,
    b_law := U25.binds (ps := ["script"]) fun _ _ _ _ _ _ us hl => match us, hl with | [_], _ => rfl,
    m_law := He.glo_ok X G (c.fact 25 (f := .glo "law") rfl),
    z_abs := He.free_ok X G (c.fact 26 (f := .free "abs") rfl),
    z_all := He.free_ok X G (c.fact 27 (f := .free "all") rfl),
    z_any := He.free_ok X G (c.fact 28 (f := .free "any") rfl),
    z_enumerate := He.free_ok X G (c.fact 29 (f := .free "enumerate") rfl),
    z_int := He.free_ok X G (c.fact 30 (f := .free "int") rfl),
    z_len := He.free_ok X G (c.fact 31 (f := .free "len") rfl),
    z_list := He.free_ok X G (c.fact 32 (f := .free "list") rfl),
    z_range := He.free_ok X G (c.fact 33 (f := .free "range") rfl),
    z_sorted := He.free_ok X G (c.fact 34 (f := .free "sorted") rfl),
    z_sum := He.free_ok X G (c.fact 35 (f := .free "sum") rfl),
    z_tuple := He.free_ok X G (c.fact 36 (f := .free "tuple") rfl) }⟩
theorem facts {P : Program} {w : World} {K : PySem.W.Frag} {h : Heap} {mg : Str → Option Value} {f : Addr} (X : K.In h) (G : h.Ns mainGlobals mg) (hfa : mg ("law" : Str) = some (.ref f)) (c : He.SaysD fa fn K) (hm : (b_law 40 (none :: some (.val .stt) :: List.replicate 18 none)).wp fun r => r.1 = .rt (.bl true)) :
    ∃ fd : FuncData, (∀ (s : Shared) (v : Value), BindsTo s fd ⟨[v], []⟩ [("script", v)]) ∧ ∀ base : Heap, K.In base → base.Ns mainGlobals mg → FnOk P w K mg base CX0 42 f fd ["script"] (spLawD K) := by
  obtain ⟨fd, F⟩ := c.def_ 25 (d := dd "law" s_T_law) rfl
  have e := hfa.symm.trans (He.glo_ok X G (c.fact 25 (f := .glo "law") rfl))
  cases e
  obtain ⟨α, T⟩ := tb_of X G c
  have b := FunD.bindsA (ps := ["script"]) F fun _ _ _ _ _ _ us hl => match us, hl with | [_], _ => rfl
  have e2 := (He.glo_ok X G (c.fact 25 (f := .glo "law") rfl)).symm.trans T.m_law
  refine ⟨fd, fun s v => b s [v] rfl, fun base _ _ => ?_⟩
  have q := ok_law T (P := P) (w := w) (base := base) (fun S hS => ok_all T S hS 40) hm
  have e3 := Value.ref.inj (Option.some.inj e2)
  have e4 : α.d_law = fd := by
    obtain ⟨_, _, _, _, _, _, _, _, _, _, l1, _⟩ := T.F_law.ex
    obtain ⟨_, _, _, _, _, _, _, _, _, _, _, l2, _⟩ := F.ex
    rw [← e3] at l1
    have l3 := l1.symm.trans l2
    simp only [Option.some.injEq, Obj.mk.injEq, Data.func.injEq] at l3
    exact l3.2.2.1
  rw [← e3, e4] at q
  exact q
end K84

set_option Elab.async false
set_option linter.all false
set_option maxRecDepth 100000
set_option maxHeartbeats 0
namespace K84
open PySem PySem.Spec L2 DL
def t_parting_pair (one_ : (List (Str × Str))) (other_ : (List (Str × Str))) : M (Option (Str × Str)) := ((loopR (fun x1 s2 => (((rgM (x1.1 + (1 : Int)) ((one_.length : Nat) : Int)) >>= fun v17 => loopR (fun x3 s4 => ((if (decide (x1.2.1 = s_all)) then ((((ixM one_ x3) >>= fun v5 => .ret v5.1) >>= fun v7 => .ret (decide (v7 = s_some))) >>= fun kb => if kb then (((ixM one_ x3) >>= fun v9 => indexM other_ v9) >>= fun v11 => ((ixM one_ x1.1) >>= fun v10 => indexM other_ v10) >>= fun v12 => .ret (decide (v11 < v12))) else .ret false) else .ret false) >>= fun kb => if kb then ((((ixM one_ x3) >>= fun v13 => .ret v13.2) >>= fun v15 => .ret (x1.2.2, v15)) >>= fun v16 => .ret (some v16)) >>= fun r => .ret (.back r) else .ret (.go ()))) v17 ()) : M (Fw Unit (Option (Str × Str)))) >>= contR (fun s18 => .ret (.go ())) (fun r => (Fw.back r))) (enumT 0 one_) ()) : M (Fw Unit (Option (Str × Str)))) >>= contR (fun s20 => .ret (none : (Option (Str × Str)))) (fun r => r)
theorem rf_parting_pair (k : Nat) (one_ : (List (Str × Str))) (other_ : (List (Str × Str))) : Ev (eO (eT2 eS eS)) (f_parting_pair (k + 1) [(eL (eT2 eS eS)) one_, (eL (eT2 eS eS)) other_]) (t_parting_pair one_ other_) := by
  show Ev (eO (eT2 eS eS)) (fnM 6 [false, true] (b_parting_pair (k + 0)) [(eL (eT2 eS eS)) one_, (eL (eT2 eS eS)) other_]) _
  exact rf_fn
    (s_forget (s_nextR (E := (fun (s : Unit) => [some (.val ((eL (eT2 eS eS)) one_)), some (.bor ((eL (eT2 eS eS)) other_)), none, none, none, none])) (eρ := (eO (eT2 eS eS))) (f := fun r => r) (fun _ _ => Or.inl rfl) (l_for (e := (eT2 eI (eT2 eS eS))) (i_enum (rfl : _ = M.ret ((eL (eT2 eS eS)) one_))) (rf_loopR (e := (eT2 eI (eT2 eS eS))) (E := (fun (s : Unit) => [some (.val ((eL (eT2 eS eS)) one_)), some (.bor ((eL (eT2 eS eS)) other_)), none, none, none, none])) (eρ := (eO (eT2 eS eS))) (fun _ _ => rfl) (fun x1 s2 => (s_forget (s_nextR (E := (fun (s : Unit) => [some (.val ((eL (eT2 eS eS)) one_)), some (.bor ((eL (eT2 eS eS)) other_)), some (.val (eI x1.1)), none, some (.val (eS x1.2.1)), some (.val (eS x1.2.2))])) (eρ := (eO (eT2 eS eS))) (f := fun r => (Fw.back r)) (fun _ _ => rfl) (l_forE (e := eI) (i_rg2 (p_bin (rfl : _ = M.ret (eI x1.1)) (rfl : _ = M.ret (eI (1 : Int))) rfl) (p_call (p_cons (rfl : _ = M.ret ((eL (eT2 eS eS)) one_)) p_nil) (o_lenL _))) (fun v17 => (rf_loopR (e := eI) (E := (fun (s : Unit) => [some (.val ((eL (eT2 eS eS)) one_)), some (.bor ((eL (eT2 eS eS)) other_)), some (.val (eI x1.1)), none, some (.val (eS x1.2.1)), some (.val (eS x1.2.2))])) (eρ := (eO (eT2 eS eS))) (fun _ _ => rfl) (fun x3 s4 => (s_iff (r_andP (p_binT (rfl : _ = M.ret (eS x1.2.1)) (rfl : _ = M.ret (eS s_all)) (o_eqE cS (by decide) _ _)) (r_and (t_E (b_EP (b_EP (b_PP (rfl : _ = M.ret ((eL (eT2 eS eS)) one_)) (rfl : _ = M.ret (eI x3)) (r_ix _ _)) (rfl : _ = M.ret (eI (0 : Int))) (fun v5 => (ev_ret (e := eS) rfl))) (rfl : _ = M.ret (eS s_some)) (fun v7 => (ev_ret (e := eB) (o_eqE cS (by decide) _ _))))) (t_E (b_EE (r_indexE (cT2 cS cS) (by decide) (rfl : _ = M.ret ((eL (eT2 eS eS)) other_)) (b_PP (rfl : _ = M.ret ((eL (eT2 eS eS)) one_)) (rfl : _ = M.ret (eI x3)) (r_ix _ _))) (r_indexE (cT2 cS cS) (by decide) (rfl : _ = M.ret ((eL (eT2 eS eS)) other_)) (b_PP (rfl : _ = M.ret ((eL (eT2 eS eS)) one_)) (rfl : _ = M.ret (eI x1.1)) (r_ix _ _))) (fun v11 v12 => (ev_ret (e := eB) rfl)))))) (s_retE (f := Fw.back) (fun _ _ => ⟨(fun z => nomatch z), rfl⟩) (ev_some (r_tup (a_consP (d := eS x1.2.2) (rfl : _ = M.ret (eS x1.2.2)) (a_cons (b_EP (b_PP (rfl : _ = M.ret ((eL (eT2 eS eS)) one_)) (rfl : _ = M.ret (eI x3)) (r_ix _ _)) (rfl : _ = M.ret (eI (1 : Int))) (fun v13 => (ev_ret (e := eS) rfl))) (fun v15 => (a_nil (k_disp (R := Re (eT2 eS eS)) (r := ((x1.2.2, v15) : (Str × Str))) (p_len (n := 2) (by decide)) rfl)))))))) (s_skip (e_goT rfl)))) v17 ()))) (fun s18 => (e_goT rfl))))) (enumT 0 one_) ())) (fun s20 => (s_retP (r := (none : (Option (Str × Str)))) (x := (none : (Option (Str × Str)))) (fun _ => Or.inl rfl) (rfl : _ = M.ret (eN ()))))))
end K84

set_option Elab.async false
set_option linter.all false
set_option maxRecDepth 100000
set_option maxHeartbeats 0
namespace K84
open PySem PySem.Spec L2 DL
def t_entails (one_ : (List (Str × Str))) (other_ : (List (Str × Str))) : M D := ((t_parting_pair one_ other_)) >>= fun pair_v1 => (if (!pair_v1.isNone) then (dAdd ((eT1 eS) s_apart) ((eO (eT2 eS eS)) pair_v1)) else (M.ret ([] : (List Int))) >>= fun places_v2 => ((whileM (fun s3 => (M.ret s3.2.2)) (fun s3 => (((rgM 0 (((s3.1.length : Nat) : Int) - (1 : Int))) >>= fun v19 => loopM (fun x4 s5 => (((((ixM s5.1 x4) >>= fun v6 => indexM other_ v6) >>= fun v8 => ((ixM s5.1 (x4 + (1 : Int))) >>= fun v7 => indexM other_ v7) >>= fun v9 => .ret (decide (v9 < v8))) >>= fun kb => if kb then ((((ixM s5.1 (x4 + (1 : Int))) >>= fun v10 => (ixM s5.1 x4) >>= fun v11 => .ret [v10, v11]) >>= fun v13 => (catM (cutD s5.1 none (some x4)) v13)) >>= fun v14 => (catM v14 (cutD s5.1 (some (x4 + (2 : Int))) none))) >>= fun row_v16 => appM s5.2.1 x4 >>= fun places_v17 => .ret (row_v16, places_v17, true) else .ret (s5.1, s5.2.1, s5.2.2)) : M ((List (Str × Str)) × (List Int) × Bool)) >>= fun s18 => .ret (s18.1, s18.2.1, s18.2.2)) v19 (s3.1, s3.2.1, false)) : M ((List (Str × Str)) × (List Int) × Bool)) >>= fun s20 => .ret (s20.1, s20.2.1, s20.2.2)) 100 (one_, places_v2, true)) : M ((List (Str × Str)) × (List Int) × Bool)) >>= fun s21 => .ret ((eT2 eS (eL eI)) (s_swaps, s21.2.1)))
theorem rf_entails (k : Nat) (one_ : (List (Str × Str))) (other_ : (List (Str × Str))) : Ev eD (f_entails (k + 2) [(eL (eT2 eS eS)) one_, (eL (eT2 eS eS)) other_]) (t_entails one_ other_) := by
  show Ev eD (fnM 7 [false, true] (b_entails (k + 1)) [(eL (eT2 eS eS)) one_, (eL (eT2 eS eS)) other_]) _
  exact rf_fn
    (s_setE (e := (eO (eT2 eS eS))) (c_call (a_consP (d := (eL (eT2 eS eS)) one_) (rfl : _ = M.ret ((eL (eT2 eS eS)) one_)) (a_consP (d := (eL (eT2 eS eS)) other_) (rfl : _ = M.ret ((eL (eT2 eS eS)) other_)) (a_nil (rf_parting_pair _ _ _))))) (fun pair_v1 => (s_iffP (p_binT (rfl : _ = M.ret ((eO (eT2 eS eS)) pair_v1)) (rfl : _ = M.ret (eN ())) (o_isNotO nnT2 _)) (s_retF (fun _ _ => ⟨(fun z => nomatch z), Or.inl rfl⟩) (b_PP (p_tup (ds := [eS s_apart]) (p_cons (rfl : _ = M.ret (eS s_apart)) p_nil) (p_len (n := 1) (by decide))) (rfl : _ = M.ret ((eO (eT2 eS eS)) pair_v1)) (ev_id _))) (s_skip (s_setP (p_call (p_cons (rfl : _ = M.ret ((eL (eT2 eS eS)) one_)) p_nil) rfl) (s_setOE (e := (eL eI)) (ev_ret (e := (eL eI)) (p_lstE (e := eI) (xs := ([] : List Int)) p_nil (p_len (n := 0) (by decide)))) (fun places_v2 => (s_setP (rfl : _ = M.ret (eB true)) (s_forget (s_next (E := (fun (s : ((List (Str × Str)) × (List Int) × Bool)) => [some (.val ((eL (eT2 eS eS)) one_)), some (.bor ((eL (eT2 eS eS)) other_)), some (.val ((eO (eT2 eS eS)) pair_v1)), some (.val ((eL (eT2 eS eS)) s.1)), some (.own ((eL eI) s.2.1)), some (.val (eB s.2.2)), none])) (rf_whileM (E := (fun (s : ((List (Str × Str)) × (List Int) × Bool)) => [some (.val ((eL (eT2 eS eS)) one_)), some (.bor ((eL (eT2 eS eS)) other_)), some (.val ((eO (eT2 eS eS)) pair_v1)), some (.val ((eL (eT2 eS eS)) s.1)), some (.own ((eL eI) s.2.1)), some (.val (eB s.2.2)), none])) (fun s3 => (et_ret (p_tru (rfl : _ = M.ret (eB s3.2.2)) rfl))) (fun s3 => (s_setP (rfl : _ = M.ret (eB false)) (s_forget (s_next (E := (fun (s : ((List (Str × Str)) × (List Int) × Bool)) => [some (.val ((eL (eT2 eS eS)) one_)), some (.bor ((eL (eT2 eS eS)) other_)), some (.val ((eO (eT2 eS eS)) pair_v1)), some (.val ((eL (eT2 eS eS)) s.1)), some (.own ((eL eI) s.2.1)), some (.val (eB s.2.2)), none])) (l_forE (e := eI) (i_rg1 (p_bin (p_call (p_cons (rfl : _ = M.ret ((eL (eT2 eS eS)) s3.1)) p_nil) (o_lenL _)) (rfl : _ = M.ret (eI (1 : Int))) rfl)) (fun v19 => (rf_loopM (e := eI) (E := (fun (s : ((List (Str × Str)) × (List Int) × Bool)) => [some (.val ((eL (eT2 eS eS)) one_)), some (.bor ((eL (eT2 eS eS)) other_)), some (.val ((eO (eT2 eS eS)) pair_v1)), some (.val ((eL (eT2 eS eS)) s.1)), some (.own ((eL eI) s.2.1)), some (.val (eB s.2.2)), none])) (fun _ _ => rfl) (fun x4 s5 => (s_next (E := (fun (s : ((List (Str × Str)) × (List Int) × Bool)) => [some (.val ((eL (eT2 eS eS)) one_)), some (.bor ((eL (eT2 eS eS)) other_)), some (.val ((eO (eT2 eS eS)) pair_v1)), some (.val ((eL (eT2 eS eS)) s.1)), some (.own ((eL eI) s.2.1)), some (.val (eB s.2.2)), some (.val (eI x4))])) (s_if (t_E (b_EE (r_indexE (cT2 cS cS) (by decide) (rfl : _ = M.ret ((eL (eT2 eS eS)) other_)) (b_PP (rfl : _ = M.ret ((eL (eT2 eS eS)) s5.1)) (rfl : _ = M.ret (eI x4)) (r_ix _ _))) (r_indexE (cT2 cS cS) (by decide) (rfl : _ = M.ret ((eL (eT2 eS eS)) other_)) (b_PP (rfl : _ = M.ret ((eL (eT2 eS eS)) s5.1)) (p_bin (rfl : _ = M.ret (eI x4)) (rfl : _ = M.ret (eI (1 : Int))) rfl) (r_ix _ _))) (fun v8 v9 => (ev_ret (e := eB) rfl)))) (s_setE (e := (eL (eT2 eS eS))) (b_EP (b_PE (p_sl (rfl : _ = M.ret ((eL (eT2 eS eS)) s5.1)) po_n (po_s (rfl : _ = M.ret (eI x4))) (o_slL _ _ _)) (r_lst (a_cons (b_PP (rfl : _ = M.ret ((eL (eT2 eS eS)) s5.1)) (p_bin (rfl : _ = M.ret (eI x4)) (rfl : _ = M.ret (eI (1 : Int))) rfl) (r_ix _ _)) (fun v10 => (a_cons (b_PP (rfl : _ = M.ret ((eL (eT2 eS eS)) s5.1)) (rfl : _ = M.ret (eI x4)) (r_ix _ _)) (fun v11 => (a_nil (k_disp (R := Re (eL (eT2 eS eS))) (r := ([v10, v11] : (List (Str × Str)))) (p_len (n := 2) (by decide)) rfl))))))) (fun v13 => (r_cat _ _))) (p_sl (rfl : _ = M.ret ((eL (eT2 eS eS)) s5.1)) (po_s (p_bin (rfl : _ = M.ret (eI x4)) (rfl : _ = M.ret (eI (2 : Int))) rfl)) po_n (o_slL _ _ _)) (fun v14 => (r_cat _ _))) (fun row_v16 => (s_appP (e := eI) (xs := s5.2.1) (x := x4) (rfl : _ = M.ret (eI x4)) rfl (fun places_v17 => (s_setP (rfl : _ = M.ret (eB true)) (e_goN rfl)))))) (e_goN rfl)) (fun s18 => (e_goX rfl)))) v19 (s3.1, s3.2.1, false)))) (fun s20 => (e_goX rfl)))))) 100 (one_, places_v2, true)) (fun s21 => (s_frz rfl (s_retP (r := ((eT2 eS (eL eI)) (s_swaps, s21.2.1))) (x := ((eT2 eS (eL eI)) (s_swaps, s21.2.1))) (fun _ => Or.inl rfl) (p_tup (ds := [eS s_swaps, (eL eI) s21.2.1]) (p_cons (rfl : _ = M.ret (eS s_swaps)) (p_cons (rfl : _ = M.ret ((eL eI) s21.2.1)) p_nil)) (p_len (n := 2) (by decide))))))))))))))))
end K84

set_option Elab.async false
set_option linter.all false
set_option maxRecDepth 100000
set_option maxHeartbeats 0
namespace K84
open PySem PySem.Spec L2 DL
def t_swapped (prefix_ : (List (Str × Str))) (place_ : Int) : M (Option (List (Str × Str))) := ((if (!((decide ((0 : Int) ≤ place_)) && (decide (place_ < (((prefix_.length : Nat) : Int) - (1 : Int)))))) then .ret true else ((((ixM prefix_ place_) >>= fun v1 => .ret v1.1) >>= fun v3 => .ret (decide (v3 = s_all))) >>= fun kb => if kb then (((ixM prefix_ (place_ + (1 : Int))) >>= fun v5 => .ret v5.1) >>= fun v7 => .ret (decide (v7 = s_some))) else .ret false)) >>= fun kb => if kb then .ret (none : (Option (List (Str × Str)))) else (((((ixM prefix_ (place_ + (1 : Int))) >>= fun v9 => (ixM prefix_ place_) >>= fun v10 => .ret [v9, v10]) >>= fun v12 => (catM (cutD prefix_ none (some place_)) v12)) >>= fun v13 => (catM v13 (cutD prefix_ (some (place_ + (2 : Int))) none))) >>= fun v15 => .ret (some v15)))
theorem rf_swapped (k : Nat) (prefix_ : (List (Str × Str))) (place_ : Int) : Ev (eO (eL (eT2 eS eS))) (f_swapped (k + 1) [(eL (eT2 eS eS)) prefix_, eI place_]) (t_swapped prefix_ place_) := by
  show Ev (eO (eL (eT2 eS eS))) (fnM 2 [true, true] (b_swapped (k + 0)) [(eL (eT2 eS eS)) prefix_, eI place_]) _
  exact rf_fn
    (s_iff (r_orP (p_not (p_TE (p_chain (rfl : _ = M.ret (eI (0 : Int))) (rfl : _ = M.ret (eI place_)) (p_bin (p_call (p_cons (rfl : _ = M.ret ((eL (eT2 eS eS)) prefix_)) p_nil) (o_lenL _)) (rfl : _ = M.ret (eI (1 : Int))) rfl) rfl rfl))) (r_and (t_E (b_EP (b_EP (b_PP (rfl : _ = M.ret ((eL (eT2 eS eS)) prefix_)) (rfl : _ = M.ret (eI place_)) (r_ix _ _)) (rfl : _ = M.ret (eI (0 : Int))) (fun v1 => (ev_ret (e := eS) rfl))) (rfl : _ = M.ret (eS s_all)) (fun v3 => (ev_ret (e := eB) (o_eqE cS (by decide) _ _))))) (t_E (b_EP (b_EP (b_PP (rfl : _ = M.ret ((eL (eT2 eS eS)) prefix_)) (p_bin (rfl : _ = M.ret (eI place_)) (rfl : _ = M.ret (eI (1 : Int))) rfl) (r_ix _ _)) (rfl : _ = M.ret (eI (0 : Int))) (fun v5 => (ev_ret (e := eS) rfl))) (rfl : _ = M.ret (eS s_some)) (fun v7 => (ev_ret (e := eB) (o_eqE cS (by decide) _ _))))))) (s_retP (r := (none : (Option (List (Str × Str))))) (x := (none : (Option (List (Str × Str))))) (fun _ => ⟨(fun z => nomatch z), Or.inl rfl⟩) (rfl : _ = M.ret (eN ()))) (s_skip (s_retF (fun _ _ => Or.inl rfl) (ev_some (b_EP (b_PE (p_sl (rfl : _ = M.ret ((eL (eT2 eS eS)) prefix_)) po_n (po_s (rfl : _ = M.ret (eI place_))) (o_slL _ _ _)) (r_lst (a_cons (b_PP (rfl : _ = M.ret ((eL (eT2 eS eS)) prefix_)) (p_bin (rfl : _ = M.ret (eI place_)) (rfl : _ = M.ret (eI (1 : Int))) rfl) (r_ix _ _)) (fun v9 => (a_cons (b_PP (rfl : _ = M.ret ((eL (eT2 eS eS)) prefix_)) (rfl : _ = M.ret (eI place_)) (r_ix _ _)) (fun v10 => (a_nil (k_disp (R := Re (eL (eT2 eS eS))) (r := ([v9, v10] : (List (Str × Str)))) (p_len (n := 2) (by decide)) rfl))))))) (fun v12 => (r_cat _ _))) (p_sl (rfl : _ = M.ret ((eL (eT2 eS eS)) prefix_)) (po_s (p_bin (rfl : _ = M.ret (eI place_)) (rfl : _ = M.ret (eI (2 : Int))) rfl)) po_n (o_slL _ _ _)) (fun v13 => (r_cat _ _)))))))
end K84

set_option Elab.async false
set_option linter.all false
set_option maxRecDepth 100000
set_option maxHeartbeats 0
namespace K84
open PySem PySem.Spec L2 DL
def t_entails_fault (one_ : (List (Str × Str))) (other_ : (List (Str × Str))) (told_ : D) : M D := (((dIx told_ (eI (0 : Int))) >>= fun v1 => (asBM (dEq v1 (eS s_swaps)))) >>= fun kb => if kb then (M.ret (some one_)) >>= fun row_v3 => ((((dIx told_ (eI (1 : Int))) >>= enumDM) >>= fun v9 => loopR (fun x4 s5 => ((M.opt s5) >>= fun v6 => (asI x4.2) >>= fun v7 => (t_swapped v6 v7)) >>= fun row_v8 => (if row_v8.isNone then .ret (.back ((eT2 eS eI) (s_swap, x4.1))) else .ret (.go row_v8))) v9 row_v3) : M (Fw (Option (List (Str × Str))) D)) >>= contR (fun s10 => .ret (if (decide (s10 = (some other_))) then (eN ()) else ((eT1 eS) s_other))) (fun r => r) else ((((dIx told_ (eI (1 : Int))) >>= asSD) >>= fun v11 => .ret (s_all, v11)) >>= fun v13 => (((dIx told_ (eI (2 : Int))) >>= asSD) >>= fun v12 => .ret (s_some, v12)) >>= fun v14 => .ret (v13, v14)) >>= fun pair_v15 => (if ((!memT pair_v15.1 one_) || (!memT pair_v15.2 one_)) then .ret ((eT1 eS) s_names) else (((indexM one_ pair_v15.1) >>= fun v16 => (indexM one_ pair_v15.2) >>= fun v17 => .ret (decide (v16 < v17))) >>= fun kb => if kb then ((indexM other_ pair_v15.2) >>= fun v18 => (indexM other_ pair_v15.1) >>= fun v19 => .ret (decide (v18 < v19))) else .ret false) >>= fun right_v20 => .ret (if right_v20 then (eN ()) else ((eT1 eS) s_pair))))
theorem rf_entails_fault (k : Nat) (one_ : (List (Str × Str))) (other_ : (List (Str × Str))) (told_ : D) : Ev eD (f_entails_fault (k + 2) [(eL (eT2 eS eS)) one_, (eL (eT2 eS eS)) other_, eD told_]) (t_entails_fault one_ other_ told_) := by
  show Ev eD (fnM 8 [true, true, true] (b_entails_fault (k + 1)) [(eL (eT2 eS eS)) one_, (eL (eT2 eS eS)) other_, eD told_]) _
  exact rf_fn
    (s_iff (t_E (b_EP (b_PP (rfl : _ = M.ret (eD told_)) (rfl : _ = M.ret (eI (0 : Int))) (ev_id _)) (rfl : _ = M.ret (eS s_swaps)) (fun v1 => (ev_asB _)))) (s_setE (e := (eO (eL (eT2 eS eS)))) (ev_ret (e := (eO (eL (eT2 eS eS)))) (p_call (p_cons (rfl : _ = M.ret ((eL (eT2 eS eS)) one_)) p_nil) rfl)) (fun row_v3 => (s_forget (s_nextR (E := (fun (s : (Option (List (Str × Str)))) => [some (.bor ((eL (eT2 eS eS)) one_)), some (.bor ((eL (eT2 eS eS)) other_)), some (.bor (eD told_)), none, none, some (.val ((eO (eL (eT2 eS eS))) s)), none, none])) (eρ := eD) (f := fun r => r) (fun _ _ => ⟨(fun z => nomatch z), Or.inl rfl⟩) (l_forE (e := (eT2 eI eD)) (i_enumDE (b_PP (rfl : _ = M.ret (eD told_)) (rfl : _ = M.ret (eI (1 : Int))) (ev_id _))) (fun v9 => (rf_loopR (e := (eT2 eI eD)) (E := (fun (s : (Option (List (Str × Str)))) => [some (.bor ((eL (eT2 eS eS)) one_)), some (.bor ((eL (eT2 eS eS)) other_)), some (.bor (eD told_)), none, none, some (.val ((eO (eL (eT2 eS eS))) s)), none, none])) (eρ := eD) (fun _ _ => rfl) (fun x4 s5 => (s_setE (e := (eO (eL (eT2 eS eS)))) (c_call (a_cons (q_O (e := (eL (eT2 eS eS))) (rfl : _ = M.ret ((eO (eL (eT2 eS eS))) s5))) (fun v6 => (a_cons (q_P q_I (rfl : _ = M.ret (eD x4.2))) (fun v7 => (a_nil (rf_swapped _ _ _))))))) (fun row_v8 => (s_iffP (p_binT (rfl : _ = M.ret ((eO (eL (eT2 eS eS))) row_v8)) (rfl : _ = M.ret (eN ())) (o_isO nnL _)) (s_retP (r := ((eT2 eS eI) (s_swap, x4.1))) (x := Fw.back ((eT2 eS eI) (s_swap, x4.1))) (fun _ => ⟨(fun z => nomatch z), rfl⟩) (p_tup (ds := [eS s_swap, eI x4.1]) (p_cons (rfl : _ = M.ret (eS s_swap)) (p_cons (rfl : _ = M.ret (eI x4.1)) p_nil)) (p_len (n := 2) (by decide)))) (s_skip (e_goT rfl)))))) v9 row_v3))) (fun s10 => (s_retP (r := (if (decide (s10 = (some other_))) then (eN ()) else ((eT1 eS) s_other))) (x := (if (decide (s10 = (some other_))) then (eN ()) else ((eT1 eS) s_other))) (fun _ => ⟨(fun z => nomatch z), Or.inl rfl⟩) (p_ifE (e := eD) (p_binT (rfl : _ = M.ret ((eO (eL (eT2 eS eS))) s10)) (rfl : _ = M.ret ((eL (eT2 eS eS)) other_)) (o_eqE (cO (cL (cT2 cS cS)) nnL) (by decide) _ _)) (rfl : _ = M.ret (eN ())) (p_tup (ds := [eS s_other]) (p_cons (rfl : _ = M.ret (eS s_other)) p_nil) (p_len (n := 1) (by decide)))))))))) (s_skipF (s_setE (e := (eT2 (eT2 eS eS) (eT2 eS eS))) (r_tup (a_cons (r_tup (a_consP (d := eS s_all) (rfl : _ = M.ret (eS s_all)) (a_cons (q_E q_S (b_PP (rfl : _ = M.ret (eD told_)) (rfl : _ = M.ret (eI (1 : Int))) (ev_id _))) (fun v11 => (a_nil (k_disp (R := Re (eT2 eS eS)) (r := ((s_all, v11) : (Str × Str))) (p_len (n := 2) (by decide)) rfl)))))) (fun v13 => (a_cons (r_tup (a_consP (d := eS s_some) (rfl : _ = M.ret (eS s_some)) (a_cons (q_E q_S (b_PP (rfl : _ = M.ret (eD told_)) (rfl : _ = M.ret (eI (2 : Int))) (ev_id _))) (fun v12 => (a_nil (k_disp (R := Re (eT2 eS eS)) (r := ((s_some, v12) : (Str × Str))) (p_len (n := 2) (by decide)) rfl)))))) (fun v14 => (a_nil (k_disp (R := Re (eT2 (eT2 eS eS) (eT2 eS eS))) (r := ((v13, v14) : ((Str × Str) × (Str × Str)))) (p_len (n := 2) (by decide)) rfl))))))) (fun pair_v15 => (s_iffP (p_or (p_binT (p_bin (rfl : _ = M.ret ((eT2 (eT2 eS eS) (eT2 eS eS)) pair_v15)) (rfl : _ = M.ret (eI (0 : Int))) rfl) (rfl : _ = M.ret ((eL (eT2 eS eS)) one_)) (o_mnotInL (cT2 cS cS) (by decide) _ _)) (p_binT (p_bin (rfl : _ = M.ret ((eT2 (eT2 eS eS) (eT2 eS eS)) pair_v15)) (rfl : _ = M.ret (eI (1 : Int))) rfl) (rfl : _ = M.ret ((eL (eT2 eS eS)) one_)) (o_mnotInL (cT2 cS cS) (by decide) _ _))) (s_retP (r := ((eT1 eS) s_names)) (x := ((eT1 eS) s_names)) (fun _ => ⟨(fun z => nomatch z), Or.inl rfl⟩) (p_tup (ds := [eS s_names]) (p_cons (rfl : _ = M.ret (eS s_names)) p_nil) (p_len (n := 1) (by decide)))) (s_skip (s_setE (e := eB) (r_andV (b_EE (r_index (cT2 cS cS) (by decide) (rfl : _ = M.ret ((eL (eT2 eS eS)) one_)) (p_bin (rfl : _ = M.ret ((eT2 (eT2 eS eS) (eT2 eS eS)) pair_v15)) (rfl : _ = M.ret (eI (0 : Int))) rfl)) (r_index (cT2 cS cS) (by decide) (rfl : _ = M.ret ((eL (eT2 eS eS)) one_)) (p_bin (rfl : _ = M.ret ((eT2 (eT2 eS eS) (eT2 eS eS)) pair_v15)) (rfl : _ = M.ret (eI (1 : Int))) rfl)) (fun v16 v17 => (ev_ret (e := eB) rfl))) (b_EE (r_index (cT2 cS cS) (by decide) (rfl : _ = M.ret ((eL (eT2 eS eS)) other_)) (p_bin (rfl : _ = M.ret ((eT2 (eT2 eS eS) (eT2 eS eS)) pair_v15)) (rfl : _ = M.ret (eI (1 : Int))) rfl)) (r_index (cT2 cS cS) (by decide) (rfl : _ = M.ret ((eL (eT2 eS eS)) other_)) (p_bin (rfl : _ = M.ret ((eT2 (eT2 eS eS) (eT2 eS eS)) pair_v15)) (rfl : _ = M.ret (eI (0 : Int))) rfl)) (fun v18 v19 => (ev_ret (e := eB) rfl)))) (fun right_v20 => (s_retP (r := (if right_v20 then (eN ()) else ((eT1 eS) s_pair))) (x := (if right_v20 then (eN ()) else ((eT1 eS) s_pair))) (fun _ => Or.inl rfl) (p_ifE (e := eD) (p_tru (rfl : _ = M.ret (eB right_v20)) rfl) (rfl : _ = M.ret (eN ())) (p_tup (ds := [eS s_pair]) (p_cons (rfl : _ = M.ret (eS s_pair)) p_nil) (p_len (n := 1) (by decide)))))))))))))
end K84

set_option Elab.async false
set_option linter.all false
set_option maxRecDepth 100000
set_option maxHeartbeats 0
namespace K84
open PySem PySem.Spec L2 DL
def t_are_alike (one_ : (List (Str × Str))) (other_ : (List (Str × Str))) : M Bool := ((((t_parting_pair one_ other_)) >>= fun v1 => .ret v1.isNone) >>= fun kb => if kb then (((t_parting_pair other_ one_)) >>= fun v3 => .ret v3.isNone) else .ret false)
theorem rf_are_alike (k : Nat) (one_ : (List (Str × Str))) (other_ : (List (Str × Str))) : Ev eB (f_are_alike (k + 2) [(eL (eT2 eS eS)) one_, (eL (eT2 eS eS)) other_]) (t_are_alike one_ other_) := by
  show Ev eB (fnM 2 [false, false] (b_are_alike (k + 1)) [(eL (eT2 eS eS)) one_, (eL (eT2 eS eS)) other_]) _
  exact rf_fn
    (s_retF (fun _ _ => Or.inl rfl) (r_andV (b_EP (c_call (a_consP (d := (eL (eT2 eS eS)) one_) (rfl : _ = M.ret ((eL (eT2 eS eS)) one_)) (a_consP (d := (eL (eT2 eS eS)) other_) (rfl : _ = M.ret ((eL (eT2 eS eS)) other_)) (a_nil (rf_parting_pair _ _ _))))) (rfl : _ = M.ret (eN ())) (fun v1 => (ev_ret (e := eB) (o_isO nnT2 _)))) (b_EP (c_call (a_consP (d := (eL (eT2 eS eS)) other_) (rfl : _ = M.ret ((eL (eT2 eS eS)) other_)) (a_consP (d := (eL (eT2 eS eS)) one_) (rfl : _ = M.ret ((eL (eT2 eS eS)) one_)) (a_nil (rf_parting_pair _ _ _))))) (rfl : _ = M.ret (eN ())) (fun v3 => (ev_ret (e := eB) (o_isO nnT2 _))))))
end K84

set_option Elab.async false
set_option linter.all false
set_option maxRecDepth 100000
set_option maxHeartbeats 0
namespace K84
open PySem PySem.Spec L2 DL
def t_plain_form (prefix_ : (List (Str × Str))) : M (List (Str × Str)) := (M.ret ([] : (List (Str × Str)))) >>= fun found_v1 => ((whileM (fun s2 => (M.ret (decide (s2.2 < ((prefix_.length : Nat) : Int))))) (fun s2 => ((whileM (fun s3 => (if (decide (s3 < ((prefix_.length : Nat) : Int))) then (((ixM prefix_ s3) >>= fun v4 => .ret v4.1) >>= fun v8 => ((ixM prefix_ s2.2) >>= fun v6 => .ret v6.1) >>= fun v9 => .ret (decide (v8 = v9))) else .ret false)) (fun s3 => (M.ret (s3 + (1 : Int))) >>= fun end_v10 => .ret end_v10) 100 s2.2) : M Int) >>= fun s11 => (((sortM (ltP2 ltS ltS) (cutD prefix_ (some s2.2) (some s11)))) >>= fun v13 => (catM s2.1 v13)) >>= fun found_v14 => .ret (found_v14, s11)) 100 (found_v1, (0 : Int))) : M ((List (Str × Str)) × Int)) >>= fun s15 => .ret s15.1
theorem rf_plain_form (k : Nat) (prefix_ : (List (Str × Str))) : Ev (eL (eT2 eS eS)) (f_plain_form (k + 1) [(eL (eT2 eS eS)) prefix_]) (t_plain_form prefix_) := by
  show Ev (eL (eT2 eS eS)) (fnM 4 [true] (b_plain_form (k + 0)) [(eL (eT2 eS eS)) prefix_]) _
  exact rf_fn
    (s_setE (e := (eL (eT2 eS eS))) (ev_ret (e := (eL (eT2 eS eS))) (p_lstE (e := (eT2 eS eS)) (xs := ([] : List (Str × Str))) p_nil (p_len (n := 0) (by decide)))) (fun found_v1 => (s_setP (rfl : _ = M.ret (eI (0 : Int))) (s_forget (s_next (E := (fun (s : ((List (Str × Str)) × Int)) => [some (.bor ((eL (eT2 eS eS)) prefix_)), some (.val ((eL (eT2 eS eS)) s.1)), some (.val (eI s.2)), none])) (rf_whileM (E := (fun (s : ((List (Str × Str)) × Int)) => [some (.bor ((eL (eT2 eS eS)) prefix_)), some (.val ((eL (eT2 eS eS)) s.1)), some (.val (eI s.2)), none])) (fun s2 => (et_ret (p_binT (rfl : _ = M.ret (eI s2.2)) (p_call (p_cons (rfl : _ = M.ret ((eL (eT2 eS eS)) prefix_)) p_nil) (o_lenL _)) rfl))) (fun s2 => (s_setP (rfl : _ = M.ret (eI s2.2)) (s_next (E := (fun (s : Int) => [some (.bor ((eL (eT2 eS eS)) prefix_)), some (.val ((eL (eT2 eS eS)) s2.1)), some (.val (eI s2.2)), some (.val (eI s))])) (rf_whileM (E := (fun (s : Int) => [some (.bor ((eL (eT2 eS eS)) prefix_)), some (.val ((eL (eT2 eS eS)) s2.1)), some (.val (eI s2.2)), some (.val (eI s))])) (fun s3 => (r_andP (p_binT (rfl : _ = M.ret (eI s3)) (p_call (p_cons (rfl : _ = M.ret ((eL (eT2 eS eS)) prefix_)) p_nil) (o_lenL _)) rfl) (t_E (b_EE (b_EP (b_PP (rfl : _ = M.ret ((eL (eT2 eS eS)) prefix_)) (rfl : _ = M.ret (eI s3)) (r_ix _ _)) (rfl : _ = M.ret (eI (0 : Int))) (fun v4 => (ev_ret (e := eS) rfl))) (b_EP (b_PP (rfl : _ = M.ret ((eL (eT2 eS eS)) prefix_)) (rfl : _ = M.ret (eI s2.2)) (r_ix _ _)) (rfl : _ = M.ret (eI (0 : Int))) (fun v6 => (ev_ret (e := eS) rfl))) (fun v8 v9 => (ev_ret (e := eB) (o_eqE cS (by decide) _ _))))))) (fun s3 => (s_setE (e := eI) (ev_ret (e := eI) (p_bin (rfl : _ = M.ret (eI s3)) (rfl : _ = M.ret (eI (1 : Int))) rfl)) (fun end_v10 => (e_goX rfl)))) 100 s2.2) (fun s11 => (s_setE (e := (eL (eT2 eS eS))) (b_PE (rfl : _ = M.ret ((eL (eT2 eS eS)) s2.1)) (c_call (a_consP (d := (eL (eT2 eS eS)) (cutD prefix_ (some s2.2) (some s11))) (p_sl (rfl : _ = M.ret ((eL (eT2 eS eS)) prefix_)) (po_s (rfl : _ = M.ret (eI s2.2))) (po_s (rfl : _ = M.ret (eI s11))) (o_slL _ _ _)) (a_nil (r_sorted (qT2 cS qS cS qS) _)))) (fun v13 => (r_cat _ _))) (fun found_v14 => (s_setP (rfl : _ = M.ret (eI s11)) (e_goX rfl)))))))) 100 (found_v1, (0 : Int))) (fun s15 => (s_retP (r := s15.1) (x := s15.1) (fun _ => Or.inl rfl) (rfl : _ = M.ret ((eL (eT2 eS eS)) s15.1)))))))))
end K84

set_option Elab.async false
set_option linter.all false
set_option maxRecDepth 100000
set_option maxHeartbeats 0
namespace K84
open PySem PySem.Spec L2 DL
def t_is_in (hosts_ : (List (Option Int))) (phrase_ : Int) (host_ : Int) : M Bool := (ixM hosts_ phrase_) >>= fun here_v1 => ((whileM (fun s2 => (M.ret ((!s2.isNone) && (!decide (s2 = (some host_)))))) (fun s2 => ((M.opt s2) >>= fun v4 => (ixM hosts_ v4)) >>= fun here_v5 => .ret here_v5) 100 here_v1) : M (Option Int)) >>= fun s6 => .ret (!s6.isNone)
theorem rf_is_in (k : Nat) (hosts_ : (List (Option Int))) (phrase_ : Int) (host_ : Int) : Ev eB (f_is_in (k + 1) [(eL (eO eI)) hosts_, eI phrase_, eI host_]) (t_is_in hosts_ phrase_ host_) := by
  show Ev eB (fnM 4 [true, true, true] (b_is_in (k + 0)) [(eL (eO eI)) hosts_, eI phrase_, eI host_]) _
  exact rf_fn
    (s_setE (e := (eO eI)) (b_PP (rfl : _ = M.ret ((eL (eO eI)) hosts_)) (rfl : _ = M.ret (eI phrase_)) (r_ix _ _)) (fun here_v1 => (s_next (E := (fun (s : (Option Int)) => [some (.bor ((eL (eO eI)) hosts_)), some (.bor (eI phrase_)), some (.bor (eI host_)), some (.val ((eO eI) s))])) (rf_whileM (E := (fun (s : (Option Int)) => [some (.bor ((eL (eO eI)) hosts_)), some (.bor (eI phrase_)), some (.bor (eI host_)), some (.val ((eO eI) s))])) (fun s2 => (et_ret (p_and (p_binT (rfl : _ = M.ret ((eO eI) s2)) (rfl : _ = M.ret (eN ())) (o_isNotO nnI _)) (p_binT (rfl : _ = M.ret ((eO eI) s2)) (rfl : _ = M.ret (eI host_)) (o_neE (cO cI nnI) (by decide) _ _))))) (fun s2 => (s_setE (e := (eO eI)) (b_PE (rfl : _ = M.ret ((eL (eO eI)) hosts_)) (q_O (e := eI) (rfl : _ = M.ret ((eO eI) s2))) (fun v4 => (r_ix _ _))) (fun here_v5 => (e_goX rfl)))) 100 here_v1) (fun s6 => (s_retP (r := (!s6.isNone)) (x := (!s6.isNone)) (fun _ => Or.inl rfl) (p_bin (rfl : _ = M.ret ((eO eI) s6)) (rfl : _ = M.ret (eN ())) (o_isNotO nnI _)))))))
end K84

set_option Elab.async false
set_option linter.all false
set_option maxRecDepth 100000
set_option maxHeartbeats 0
namespace K84
open PySem PySem.Spec L2 DL
def t_first_between (order_ : (List Int)) (hosts_ : (List (Option Int))) : M (Option (Int × Int × Int)) := ((loopR (fun x1 s2 => (ixM hosts_ x1.2) >>= fun host_v3 => ((if (memT host_v3 ((cutD order_ none (some x1.1)).map some)) then ((((((M.opt host_v3) >>= fun v4 => indexM order_ v4) >>= fun v5 => .ret (v5 + (1 : Int))) >>= fun v7 => .ret (cutD order_ (some v7) (some x1.1))) >>= fun v15 => loopR (fun x9 s10 => (((((M.opt host_v3) >>= fun v11 => (t_is_in hosts_ x9 v11)) >>= fun v12 => .ret v12) >>= fun kb => .ret (!kb)) >>= fun kb => if kb then (((M.opt host_v3) >>= fun v13 => .ret (v13, x9, x1.2)) >>= fun v14 => .ret (some v14)) >>= fun r => .ret (.back r) else .ret (.go ()))) v15 ()) : M (Fw Unit (Option (Int × Int × Int)))) >>= contR (fun s16 => .ret (.go ())) (fun r => (Fw.back r)) else .ret (.go ())) : M (Fw Unit (Option (Int × Int × Int)))) >>= contR (fun s17 => .ret (.go ())) (fun r => (Fw.back r))) (enumT 0 order_) ()) : M (Fw Unit (Option (Int × Int × Int)))) >>= contR (fun s19 => .ret (none : (Option (Int × Int × Int)))) (fun r => r)
theorem rf_first_between (k : Nat) (order_ : (List Int)) (hosts_ : (List (Option Int))) : Ev (eO (eT3 eI eI eI)) (f_first_between (k + 2) [(eL eI) order_, (eL (eO eI)) hosts_]) (t_first_between order_ hosts_) := by
  show Ev (eO (eT3 eI eI eI)) (fnM 6 [false, true] (b_first_between (k + 1)) [(eL eI) order_, (eL (eO eI)) hosts_]) _
  exact rf_fn
    (s_forget (s_nextR (E := (fun (s : Unit) => [some (.val ((eL eI) order_)), some (.bor ((eL (eO eI)) hosts_)), none, none, none, none])) (eρ := (eO (eT3 eI eI eI))) (f := fun r => r) (fun _ _ => Or.inl rfl) (l_for (e := (eT2 eI eI)) (i_enum (rfl : _ = M.ret ((eL eI) order_))) (rf_loopR (e := (eT2 eI eI)) (E := (fun (s : Unit) => [some (.val ((eL eI) order_)), some (.bor ((eL (eO eI)) hosts_)), none, none, none, none])) (eρ := (eO (eT3 eI eI eI))) (fun _ _ => rfl) (fun x1 s2 => (s_setE (e := (eO eI)) (b_PP (rfl : _ = M.ret ((eL (eO eI)) hosts_)) (rfl : _ = M.ret (eI x1.2)) (r_ix _ _)) (fun host_v3 => (s_nextR (E := (fun (s : Unit) => [some (.val ((eL eI) order_)), some (.bor ((eL (eO eI)) hosts_)), some (.val (eI x1.1)), some (.val (eI x1.2)), some (.val ((eO eI) host_v3)), none])) (eρ := (eO (eT3 eI eI eI))) (f := fun r => (Fw.back r)) (fun _ _ => rfl) (s_ifP (p_binT (rfl : _ = M.ret ((eO eI) host_v3)) (p_toLO (p_sl (rfl : _ = M.ret ((eL eI) order_)) po_n (po_s (rfl : _ = M.ret (eI x1.1))) (o_slL _ _ _))) (o_minL (cO cI nnI) (by decide) _ _)) (s_forget (s_nextR (E := (fun (s : Unit) => [some (.val ((eL eI) order_)), some (.bor ((eL (eO eI)) hosts_)), some (.val (eI x1.1)), some (.val (eI x1.2)), some (.val ((eO eI) host_v3)), none])) (eρ := (eO (eT3 eI eI eI))) (f := fun r => (Fw.back r)) (fun _ _ => rfl) (l_forE (e := eI) (i_LE (r_slLo (rfl : _ = M.ret ((eL eI) order_)) (b_EP (r_indexE cI (by decide) (rfl : _ = M.ret ((eL eI) order_)) (q_O (e := eI) (rfl : _ = M.ret ((eO eI) host_v3)))) (rfl : _ = M.ret (eI (1 : Int))) (fun v5 => (ev_ret (e := eI) rfl))) (po_s (rfl : _ = M.ret (eI x1.1))) (fun _ => o_slL _ _ _))) (fun v15 => (rf_loopR (e := eI) (E := (fun (s : Unit) => [some (.val ((eL eI) order_)), some (.bor ((eL (eO eI)) hosts_)), some (.val (eI x1.1)), some (.val (eI x1.2)), some (.val ((eO eI) host_v3)), none])) (eρ := (eO (eT3 eI eI eI))) (fun _ _ => rfl) (fun x9 s10 => (s_iff (r_not (r_truE (c_call (a_consP (d := (eL (eO eI)) hosts_) (rfl : _ = M.ret ((eL (eO eI)) hosts_)) (a_consP (d := eI x9) (rfl : _ = M.ret (eI x9)) (a_cons (q_O (e := eI) (rfl : _ = M.ret ((eO eI) host_v3))) (fun v11 => (a_nil (rf_is_in _ _ _ _))))))) (fun v12 => rfl))) (s_retE (f := Fw.back) (fun _ _ => ⟨(fun z => nomatch z), rfl⟩) (ev_some (r_tup (a_cons (q_O (e := eI) (rfl : _ = M.ret ((eO eI) host_v3))) (fun v13 => (a_consP (d := eI x9) (rfl : _ = M.ret (eI x9)) (a_consP (d := eI x1.2) (rfl : _ = M.ret (eI x1.2)) (a_nil (k_disp (R := Re (eT3 eI eI eI)) (r := ((v13, x9, x1.2) : (Int × Int × Int))) (p_len (n := 3) (by decide)) rfl))))))))) (s_skip (e_goT rfl)))) v15 ()))) (fun s16 => (e_goL rfl)))) (e_goL rfl)) (fun s17 => (e_goT rfl)))))) (enumT 0 order_) ())) (fun s19 => (s_retP (r := (none : (Option (Int × Int × Int)))) (x := (none : (Option (Int × Int × Int)))) (fun _ => Or.inl rfl) (rfl : _ = M.ret (eN ()))))))
end K84

set_option Elab.async false
set_option linter.all false
set_option maxRecDepth 100000
set_option maxHeartbeats 0
namespace K84
open PySem PySem.Spec L2 DL
def t_orders_of (phrases_ : (List (Str × Str))) (hosts_ : (List (Option Int))) : M (List (List Int)) := (M.ret [([] : (List Int))]) >>= fun found_v1 => ((loopM (fun x2 s3 => ((M.ret s3) >>= fun v6 => lc2L (fun x4 => (M.ret true)) (fun x4 => (rgM 0 ((phrases_.length : Nat) : Int))) (fun x4 x5 => (M.ret (!memT x5 x4))) (fun x4 x5 => (catM x4 [x5])) v6 []) >>= fun found_v7 => .ret found_v7) phrases_ found_v1) : M (List (List Int))) >>= fun s9 => ((lcM (fun x10 => (((t_first_between x10 hosts_)) >>= fun v11 => .ret v11.isNone)) (fun x10 => (M.ret x10))) s9)
theorem rf_orders_of (k : Nat) (phrases_ : (List (Str × Str))) (hosts_ : (List (Option Int))) : Ev (eL (eL eI)) (f_orders_of (k + 3) [(eL (eT2 eS eS)) phrases_, (eL (eO eI)) hosts_]) (t_orders_of phrases_ hosts_) := by
  show Ev (eL (eL eI)) (fnM 6 [false, true] (b_orders_of (k + 2)) [(eL (eT2 eS eS)) phrases_, (eL (eO eI)) hosts_]) _
  exact rf_fn
    (s_setE (e := (eL (eL eI))) (ev_ret (e := (eL (eL eI))) (p_lstE (e := (eL eI)) (xs := [([] : (List Int))]) (p_cons (p_lstE (e := eI) (xs := ([] : List Int)) p_nil (p_len (n := 0) (by decide))) p_nil) (p_len (n := 1) (by decide)))) (fun found_v1 => (s_forget (s_next (E := (fun (s : (List (List Int))) => [some (.val ((eL (eT2 eS eS)) phrases_)), some (.bor ((eL (eO eI)) hosts_)), some (.val ((eL (eL eI)) s)), none, none, none])) (l_for (e := (eT2 eS eS)) (i_L (rfl : _ = M.ret ((eL (eT2 eS eS)) phrases_))) (rf_loopM (e := (eT2 eS eS)) (E := (fun (s : (List (List Int))) => [some (.val ((eL (eT2 eS eS)) phrases_)), some (.bor ((eL (eO eI)) hosts_)), some (.val ((eL (eL eI)) s)), none, none, none])) (fun _ _ => rfl) (fun x2 s3 => (s_setE (e := (eL (eL eI))) (r_lc2E (e := (eL eI)) (f := eI) (g := (eL eI)) rfl (ri_ret (e := (eL eI)) (i_L (rfl : _ = M.ret ((eL (eL eI)) s3)))) (fun _ => rfl) (fun x4 => (et_ret rfl)) (fun _ => rfl) (fun x4 => (i_rg1 (p_call (p_cons (rfl : _ = M.ret ((eL (eT2 eS eS)) phrases_)) p_nil) (o_lenL _)))) (fun _ _ => rfl) (fun x4 x5 => (et_ret (p_binT (rfl : _ = M.ret (eI x5)) (rfl : _ = M.ret ((eL eI) x4)) (o_mnotInL cI (by decide) _ _)))) (fun x4 x5 => (b_PP (rfl : _ = M.ret ((eL eI) x4)) (p_lstE (e := eI) (xs := [x5]) (p_cons (rfl : _ = M.ret (eI x5)) p_nil) (p_len (n := 1) (by decide))) (r_cat _ _)))) (fun found_v7 => (e_goX rfl)))) phrases_ found_v1)) (fun s9 => (s_retF (fun _ _ => Or.inl rfl) (r_lc rfl (i_L (rfl : _ = M.ret ((eL (eL eI)) s9))) (fun _ => rfl) (fun x10 => (t_E (b_EP (c_call (a_consP (d := (eL eI) x10) (rfl : _ = M.ret ((eL eI) x10)) (a_consP (d := (eL (eO eI)) hosts_) (rfl : _ = M.ret ((eL (eO eI)) hosts_)) (a_nil (rf_first_between _ _ _))))) (rfl : _ = M.ret (eN ())) (fun v11 => (ev_ret (e := eB) (o_isO nnT3 _)))))) (fun x10 => (ev_ret (e := (eL eI)) (rfl : _ = M.ret ((eL eI) x10)))))))))))
end K84

set_option Elab.async false
set_option linter.all false
set_option maxRecDepth 100000
set_option maxHeartbeats 0
namespace K84
open PySem PySem.Spec L2 DL
def t_readings_of (phrases_ : (List (Str × Str))) (hosts_ : (List (Option Int))) : M (List ((List (Str × Str)) × Int)) := (M.ret ([] : (List ((List (Str × Str)) × Int)))) >>= fun counts_v1 => ((((t_orders_of phrases_ hosts_)) >>= fun v9 => loopM (fun x2 s3 => ((((lcM (fun x4 => (M.ret true)) (fun x4 => (ixM phrases_ x4))) x2) >>= fun v5 => (t_plain_form v5)) >>= fun v6 => .ret v6) >>= fun key_v7 => putM s3 key_v7 ((getDT s3 key_v7 (0 : Int)) + (1 : Int)) >>= fun counts_v8 => .ret counts_v8) v9 counts_v1) : M (List ((List (Str × Str)) × Int))) >>= fun s10 => (((sortVM (ltP2 ltS ltS) (keysT s10))) >>= fun v13 => (lcM (fun x11 => (M.ret true)) (fun x11 => ((getM s10 x11) >>= fun v12 => .ret (x11, v12)))) v13)
theorem rf_readings_of (k : Nat) (phrases_ : (List (Str × Str))) (hosts_ : (List (Option Int))) : Ev (eL (eT2 (eL (eT2 eS eS)) eI)) (f_readings_of (k + 4) [(eL (eT2 eS eS)) phrases_, (eL (eO eI)) hosts_]) (t_readings_of phrases_ hosts_) := by
  show Ev (eL (eT2 (eL (eT2 eS eS)) eI)) (fnM 6 [false, true] (b_readings_of (k + 3)) [(eL (eT2 eS eS)) phrases_, (eL (eO eI)) hosts_]) _
  exact rf_fn
    (s_setOE (e := (eM (eV (eT2 eS eS)) eI)) (ev_ret (e := (eM (eV (eT2 eS eS)) eI)) (p_newN (e := (eV (eT2 eS eS))) (f := eI))) (fun counts_v1 => (s_forget (s_next (E := (fun (s : (List ((List (Str × Str)) × Int))) => [some (.val ((eL (eT2 eS eS)) phrases_)), some (.bor ((eL (eO eI)) hosts_)), some (.own ((eM (eV (eT2 eS eS)) eI) s)), none, none, none])) (l_forE (e := (eL eI)) (i_LE (c_call (a_consP (d := (eL (eT2 eS eS)) phrases_) (rfl : _ = M.ret ((eL (eT2 eS eS)) phrases_)) (a_consP (d := (eL (eO eI)) hosts_) (rfl : _ = M.ret ((eL (eO eI)) hosts_)) (a_nil (rf_orders_of _ _ _)))))) (fun v9 => (rf_loopM (e := (eL eI)) (E := (fun (s : (List ((List (Str × Str)) × Int))) => [some (.val ((eL (eT2 eS eS)) phrases_)), some (.bor ((eL (eO eI)) hosts_)), some (.own ((eM (eV (eT2 eS eS)) eI) s)), none, none, none])) (fun _ _ => rfl) (fun x2 s3 => (s_setE (e := (eV (eT2 eS eS))) (c_call (a_cons (c_call (a_cons (r_lc rfl (i_L (rfl : _ = M.ret ((eL eI) x2))) (fun _ => rfl) (fun x4 => (et_ret rfl)) (fun x4 => (b_PP (rfl : _ = M.ret ((eL (eT2 eS eS)) phrases_)) (rfl : _ = M.ret (eI x4)) (r_ix _ _)))) (fun v5 => (a_nil (rf_plain_form _ _))))) (fun v6 => (a_nil (ev_ret (e := (eV (eT2 eS eS))) rfl))))) (fun key_v7 => (s_putNP (knV (cT2 cS cS) (nkT2 nkS nkS)) (xs := s3) (k := key_v7) (v := ((getDT s3 key_v7 (0 : Int)) + (1 : Int))) (p_bin (p_getN (knV (cT2 cS cS) (nkT2 nkS nkS)) (rfl : _ = M.ret ((eM (eV (eT2 eS eS)) eI) s3)) (rfl : _ = M.ret ((eV (eT2 eS eS)) key_v7)) (rfl : _ = M.ret (eI (0 : Int)))) (rfl : _ = M.ret (eI (1 : Int))) rfl) (rfl : _ = M.ret ((eV (eT2 eS eS)) key_v7)) rfl (fun counts_v8 => (e_goX rfl)))))) v9 counts_v1))) (fun s10 => (s_retF (fun _ _ => Or.inl rfl) (r_lcE rfl (i_LE (c_call (a_consP (d := (eM (eV (eT2 eS eS)) eI) s10) (rfl : _ = M.ret ((eM (eV (eT2 eS eS)) eI) s10)) (a_nil (r_sortedNV (cT2 cS cS) (qT2 cS qS cS qS) _))))) (fun _ => rfl) (fun x11 => (et_ret rfl)) (fun x11 => (r_tup (a_consP (d := (eL (eT2 eS eS)) x11) (p_call (p_cons (rfl : _ = M.ret ((eV (eT2 eS eS)) x11)) p_nil) rfl) (a_cons (b_PP (rfl : _ = M.ret ((eM (eV (eT2 eS eS)) eI) s10)) (rfl : _ = M.ret ((eV (eT2 eS eS)) x11)) (r_ixN (knV (cT2 cS cS) (nkT2 nkS nkS)) _ _)) (fun v12 => (a_nil (k_disp (R := Re (eT2 (eL (eT2 eS eS)) eI)) (r := ((x11, v12) : ((List (Str × Str)) × Int))) (p_len (n := 2) (by decide)) rfl))))))))))))))
end K84

set_option Elab.async false
set_option linter.all false
set_option maxRecDepth 100000
set_option maxHeartbeats 0
namespace K84
open PySem PySem.Spec L2 DL
def t_two_nexts (links_ : (List (Str × Int × Int))) : M (Option (Int × Int)) := ((loopR (fun x1 s2 => (((rgM 0 x1.1) >>= fun v20 => loopR (fun x3 s4 => (((if (decide (x1.2.1 = tx_next)) then (((ixM links_ x3) >>= fun v5 => .ret v5.1) >>= fun v7 => .ret (decide (v7 = tx_next))) else .ret false) >>= fun kb => if kb then (((((ixM links_ x3) >>= fun v9 => .ret v9.2.1) >>= fun v11 => .ret (decide (v11 = x1.2.2.1))) >>= fun v17 => (((ixM links_ x3) >>= fun v13 => .ret v13.2.2) >>= fun v15 => .ret (decide (v15 = x1.2.2.2))) >>= fun v18 => .ret (!(v17 == v18))) >>= fun kb => if kb then .ret (.back (some (x3, x1.1))) else .ret (.go ())) else .ret (.go ())) : M (Fw Unit (Option (Int × Int)))) >>= contR (fun s19 => .ret (.go ())) (fun r => (Fw.back r))) v20 ()) : M (Fw Unit (Option (Int × Int)))) >>= contR (fun s21 => .ret (.go ())) (fun r => (Fw.back r))) (enumT 0 links_) ()) : M (Fw Unit (Option (Int × Int)))) >>= contR (fun s23 => .ret (none : (Option (Int × Int)))) (fun r => r)
theorem rf_two_nexts (k : Nat) (links_ : (List (Str × Int × Int))) : Ev (eO (eT2 eI eI)) (f_two_nexts (k + 1) [(eL (eT3 eS eI eI)) links_]) (t_two_nexts links_) := by
  show Ev (eO (eT2 eI eI)) (fnM 6 [false] (b_two_nexts (k + 0)) [(eL (eT3 eS eI eI)) links_]) _
  exact rf_fn
    (s_forget (s_nextR (E := (fun (s : Unit) => [some (.val ((eL (eT3 eS eI eI)) links_)), none, none, none, none, none])) (eρ := (eO (eT2 eI eI))) (f := fun r => r) (fun _ _ => Or.inl rfl) (l_for (e := (eT2 eI (eT3 eS eI eI))) (i_enum (rfl : _ = M.ret ((eL (eT3 eS eI eI)) links_))) (rf_loopR (e := (eT2 eI (eT3 eS eI eI))) (E := (fun (s : Unit) => [some (.val ((eL (eT3 eS eI eI)) links_)), none, none, none, none, none])) (eρ := (eO (eT2 eI eI))) (fun _ _ => rfl) (fun x1 s2 => (s_forget (s_nextR (E := (fun (s : Unit) => [some (.val ((eL (eT3 eS eI eI)) links_)), some (.val (eI x1.1)), none, some (.val (eS x1.2.1)), some (.val (eI x1.2.2.1)), some (.val (eI x1.2.2.2))])) (eρ := (eO (eT2 eI eI))) (f := fun r => (Fw.back r)) (fun _ _ => rfl) (l_forE (e := eI) (i_rg1 (rfl : _ = M.ret (eI x1.1))) (fun v20 => (rf_loopR (e := eI) (E := (fun (s : Unit) => [some (.val ((eL (eT3 eS eI eI)) links_)), some (.val (eI x1.1)), none, some (.val (eS x1.2.1)), some (.val (eI x1.2.2.1)), some (.val (eI x1.2.2.2))])) (eρ := (eO (eT2 eI eI))) (fun _ _ => rfl) (fun x3 s4 => (s_nextR (E := (fun (s : Unit) => [some (.val ((eL (eT3 eS eI eI)) links_)), some (.val (eI x1.1)), some (.val (eI x3)), some (.val (eS x1.2.1)), some (.val (eI x1.2.2.1)), some (.val (eI x1.2.2.2))])) (eρ := (eO (eT2 eI eI))) (f := fun r => (Fw.back r)) (fun _ _ => rfl) (s_if (r_andP (p_binT (rfl : _ = M.ret (eS x1.2.1)) (rfl : _ = M.ret (eS tx_next)) (o_eqE cS (by decide) _ _)) (t_E (b_EP (b_EP (b_PP (rfl : _ = M.ret ((eL (eT3 eS eI eI)) links_)) (rfl : _ = M.ret (eI x3)) (r_ix _ _)) (rfl : _ = M.ret (eI (0 : Int))) (fun v5 => (ev_ret (e := eS) rfl))) (rfl : _ = M.ret (eS tx_next)) (fun v7 => (ev_ret (e := eB) (o_eqE cS (by decide) _ _)))))) (s_if (t_E (b_EE (b_EP (b_EP (b_PP (rfl : _ = M.ret ((eL (eT3 eS eI eI)) links_)) (rfl : _ = M.ret (eI x3)) (r_ix _ _)) (rfl : _ = M.ret (eI (1 : Int))) (fun v9 => (ev_ret (e := eI) rfl))) (rfl : _ = M.ret (eI x1.2.2.1)) (fun v11 => (ev_ret (e := eB) (o_eqE cI (by decide) _ _)))) (b_EP (b_EP (b_PP (rfl : _ = M.ret ((eL (eT3 eS eI eI)) links_)) (rfl : _ = M.ret (eI x3)) (r_ix _ _)) (rfl : _ = M.ret (eI (2 : Int))) (fun v13 => (ev_ret (e := eI) rfl))) (rfl : _ = M.ret (eI x1.2.2.2)) (fun v15 => (ev_ret (e := eB) (o_eqE cI (by decide) _ _)))) (fun v17 v18 => (ev_ret (e := eB) rfl)))) (s_retP (r := (some (x3, x1.1))) (x := Fw.back (some (x3, x1.1))) (fun _ => rfl) (p_tup (ds := [eI x3, eI x1.1]) (p_cons (rfl : _ = M.ret (eI x3)) (p_cons (rfl : _ = M.ret (eI x1.1)) p_nil)) (p_len (n := 2) (by decide)))) (e_goLp rfl)) (e_goLp rfl)) (fun s19 => (e_goT rfl)))) v20 ()))) (fun s21 => (e_goT rfl))))) (enumT 0 links_) ())) (fun s23 => (s_retP (r := (none : (Option (Int × Int)))) (x := (none : (Option (Int × Int)))) (fun _ => Or.inl rfl) (rfl : _ = M.ret (eN ()))))))
end K84

set_option Elab.async false
set_option linter.all false
set_option maxRecDepth 100000
set_option maxHeartbeats 0
namespace K84
open PySem PySem.Spec L2 DL
def t_next_of (links_ : (List (Str × Int × Int))) (word_ : Int) : M (Option Int) := ((loopR (fun x1 s2 => (if ((decide (x1.2.1 = tx_next)) && (decide (x1.2.2.1 = word_))) then .ret (.back (some x1.1)) else .ret (.go ()))) (enumT 0 links_) ()) : M (Fw Unit (Option Int))) >>= contR (fun s4 => .ret (none : (Option Int))) (fun r => r)
theorem rf_next_of (k : Nat) (links_ : (List (Str × Int × Int))) (word_ : Int) : Ev (eO eI) (f_next_of (k + 1) [(eL (eT3 eS eI eI)) links_, eI word_]) (t_next_of links_ word_) := by
  show Ev (eO eI) (fnM 6 [false, true] (b_next_of (k + 0)) [(eL (eT3 eS eI eI)) links_, eI word_]) _
  exact rf_fn
    (s_forget (s_nextR (E := (fun (s : Unit) => [some (.val ((eL (eT3 eS eI eI)) links_)), some (.bor (eI word_)), none, none, none, none])) (eρ := (eO eI)) (f := fun r => r) (fun _ _ => Or.inl rfl) (l_for (e := (eT2 eI (eT3 eS eI eI))) (i_enum (rfl : _ = M.ret ((eL (eT3 eS eI eI)) links_))) (rf_loopR (e := (eT2 eI (eT3 eS eI eI))) (E := (fun (s : Unit) => [some (.val ((eL (eT3 eS eI eI)) links_)), some (.bor (eI word_)), none, none, none, none])) (eρ := (eO eI)) (fun _ _ => rfl) (fun x1 s2 => (s_iffP (p_and (p_binT (rfl : _ = M.ret (eS x1.2.1)) (rfl : _ = M.ret (eS tx_next)) (o_eqE cS (by decide) _ _)) (p_binT (rfl : _ = M.ret (eI x1.2.2.1)) (rfl : _ = M.ret (eI word_)) (o_eqE cI (by decide) _ _))) (s_retP (r := (some x1.1)) (x := Fw.back (some x1.1)) (fun _ => ⟨(fun z => nomatch z), rfl⟩) (rfl : _ = M.ret (eI x1.1))) (s_skip (e_goT rfl)))) (enumT 0 links_) ())) (fun s4 => (s_retP (r := (none : (Option Int))) (x := (none : (Option Int))) (fun _ => Or.inl rfl) (rfl : _ = M.ret (eN ()))))))
end K84

set_option Elab.async false
set_option linter.all false
set_option maxRecDepth 100000
set_option maxHeartbeats 0
namespace K84
open PySem PySem.Spec L2 DL
def t_round_of (links_ : (List (Str × Int × Int))) : M (Option (List Int)) := ((loopR (fun x1 s2 => ((if (decide (x1.2.1 = tx_next)) then (M.ret [x1.1]) >>= fun row_v3 => ((whileM (fun s4 => (if (!decide (s4.2 = x1.2.2.1)) then ((((t_next_of links_ s4.2)) >>= fun v5 => .ret (!v5.isNone)) >>= fun kb => if kb then (((t_next_of links_ s4.2)) >>= fun v7 => .ret (!memT v7 (s4.1.map some))) else .ret false) else .ret false)) (fun s4 => (((t_next_of links_ s4.2)) >>= M.opt) >>= fun v15 => appM s4.1 v15 >>= fun row_v9 => (((ixM row_v9 (-(1 : Int))) >>= fun v11 => (ixM links_ v11)) >>= fun v12 => .ret v12.2.2) >>= fun here_v14 => .ret (row_v9, here_v14)) 100 (row_v3, x1.2.2.2)) : M ((List Int) × Int)) >>= fun s16 => (if (decide (s16.2 = x1.2.2.1)) then .ret (.back (some s16.1)) else .ret (.go ())) else .ret (.go ())) : M (Fw Unit (Option (List Int)))) >>= contR (fun s17 => .ret (.go ())) (fun r => (Fw.back r))) (enumT 0 links_) ()) : M (Fw Unit (Option (List Int)))) >>= contR (fun s19 => .ret (none : (Option (List Int)))) (fun r => r)
theorem rf_round_of (k : Nat) (links_ : (List (Str × Int × Int))) : Ev (eO (eL eI)) (f_round_of (k + 2) [(eL (eT3 eS eI eI)) links_]) (t_round_of links_) := by
  show Ev (eO (eL eI)) (fnM 7 [false] (b_round_of (k + 1)) [(eL (eT3 eS eI eI)) links_]) _
  exact rf_fn
    (s_forget (s_nextR (E := (fun (s : Unit) => [some (.val ((eL (eT3 eS eI eI)) links_)), none, none, none, none, none, none])) (eρ := (eO (eL eI))) (f := fun r => r) (fun _ _ => Or.inl rfl) (l_for (e := (eT2 eI (eT3 eS eI eI))) (i_enum (rfl : _ = M.ret ((eL (eT3 eS eI eI)) links_))) (rf_loopR (e := (eT2 eI (eT3 eS eI eI))) (E := (fun (s : Unit) => [some (.val ((eL (eT3 eS eI eI)) links_)), none, none, none, none, none, none])) (eρ := (eO (eL eI))) (fun _ _ => rfl) (fun x1 s2 => (s_nextR (E := (fun (s : Unit) => [some (.val ((eL (eT3 eS eI eI)) links_)), some (.val (eI x1.1)), some (.val (eS x1.2.1)), some (.val (eI x1.2.2.1)), some (.val (eI x1.2.2.2)), none, none])) (eρ := (eO (eL eI))) (f := fun r => (Fw.back r)) (fun _ _ => rfl) (s_ifP (p_binT (rfl : _ = M.ret (eS x1.2.1)) (rfl : _ = M.ret (eS tx_next)) (o_eqE cS (by decide) _ _)) (s_setOE (e := (eL eI)) (ev_ret (e := (eL eI)) (p_lstE (e := eI) (xs := [x1.1]) (p_cons (rfl : _ = M.ret (eI x1.1)) p_nil) (p_len (n := 1) (by decide)))) (fun row_v3 => (s_setP (rfl : _ = M.ret (eI x1.2.2.2)) (s_next (E := (fun (s : ((List Int) × Int)) => [some (.val ((eL (eT3 eS eI eI)) links_)), some (.val (eI x1.1)), some (.val (eS x1.2.1)), some (.val (eI x1.2.2.1)), some (.val (eI x1.2.2.2)), some (.own ((eL eI) s.1)), some (.val (eI s.2))])) (rf_whileM (E := (fun (s : ((List Int) × Int)) => [some (.val ((eL (eT3 eS eI eI)) links_)), some (.val (eI x1.1)), some (.val (eS x1.2.1)), some (.val (eI x1.2.2.1)), some (.val (eI x1.2.2.2)), some (.own ((eL eI) s.1)), some (.val (eI s.2))])) (fun s4 => (r_andP (p_binT (rfl : _ = M.ret (eI s4.2)) (rfl : _ = M.ret (eI x1.2.2.1)) (o_neE cI (by decide) _ _)) (r_and (t_E (b_EP (c_call (a_consP (d := (eL (eT3 eS eI eI)) links_) (rfl : _ = M.ret ((eL (eT3 eS eI eI)) links_)) (a_consP (d := eI s4.2) (rfl : _ = M.ret (eI s4.2)) (a_nil (rf_next_of _ _ _))))) (rfl : _ = M.ret (eN ())) (fun v5 => (ev_ret (e := eB) (o_isNotO nnI _))))) (t_E (b_EP (c_call (a_consP (d := (eL (eT3 eS eI eI)) links_) (rfl : _ = M.ret ((eL (eT3 eS eI eI)) links_)) (a_consP (d := eI s4.2) (rfl : _ = M.ret (eI s4.2)) (a_nil (rf_next_of _ _ _))))) (p_toLO (rfl : _ = M.ret ((eL eI) s4.1))) (fun v7 => (ev_ret (e := eB) (o_mnotInL (cO cI nnI) (by decide) _ _)))))))) (fun s4 => (s_appE (q_OE (e := eI) (c_call (a_consP (d := (eL (eT3 eS eI eI)) links_) (rfl : _ = M.ret ((eL (eT3 eS eI eI)) links_)) (a_consP (d := eI s4.2) (rfl : _ = M.ret (eI s4.2)) (a_nil (rf_next_of _ _ _)))))) rfl (fun row_v9 => (s_setE (e := eI) (b_EP (b_PE (rfl : _ = M.ret ((eL (eT3 eS eI eI)) links_)) (b_PP (rfl : _ = M.ret ((eL eI) row_v9)) (p_neg (rfl : _ = M.ret (eI (1 : Int)))) (r_ix _ _)) (fun v11 => (r_ix _ _))) (rfl : _ = M.ret (eI (2 : Int))) (fun v12 => (ev_ret (e := eI) rfl))) (fun here_v14 => (e_goX rfl)))))) 100 (row_v3, x1.2.2.2)) (fun s16 => (s_iffP (p_binT (rfl : _ = M.ret (eI s16.2)) (rfl : _ = M.ret (eI x1.2.2.1)) (o_eqE cI (by decide) _ _)) (s_frz rfl (s_retP (r := (some s16.1)) (x := Fw.back (some s16.1)) (fun _ => ⟨(fun z => nomatch z), rfl⟩) (rfl : _ = M.ret ((eL eI) s16.1)))) (s_skip (e_goL rfl)))))))) (e_goL rfl)) (fun s17 => (e_goT rfl)))) (enumT 0 links_) ())) (fun s19 => (s_retP (r := (none : (Option (List Int)))) (x := (none : (Option (List Int)))) (fun _ => Or.inl rfl) (rfl : _ = M.ret (eN ()))))))
end K84

set_option Elab.async false
set_option linter.all false
set_option maxRecDepth 100000
set_option maxHeartbeats 0
namespace K84
open PySem PySem.Spec L2 DL
def t_blocks_of (count_ : Int) (links_ : (List (Str × Int × Int))) : M (List (List Int)) := (M.ret ((links_.filter (fun x1 => (decide (x1.1 = tx_next)))).map (fun x1 => x1.2.2))) >>= fun behind_v2 => (M.ret ([] : (List (List Int)))) >>= fun found_v3 => (((rgM 0 count_) >>= fun v21 => loopM (fun x4 s5 => ((if (!memT x4 behind_v2) then (M.ret [x4]) >>= fun row_v6 => ((whileM (fun s7 => (((ixM s7 (-(1 : Int))) >>= fun v8 => (t_next_of links_ v8)) >>= fun v9 => .ret (!v9.isNone))) (fun s7 => (((((ixM s7 (-(1 : Int))) >>= fun v11 => (t_next_of links_ v11)) >>= M.opt) >>= fun v13 => (ixM links_ v13)) >>= fun v14 => .ret v14.2.2) >>= fun v17 => appM s7 v17 >>= fun row_v16 => .ret row_v16) 100 row_v6) : M (List Int)) >>= fun s18 => appM s5 s18 >>= fun found_v19 => .ret found_v19 else .ret s5) : M (List (List Int))) >>= fun s20 => .ret s20) v21 found_v3) : M (List (List Int))) >>= fun s22 => .ret s22
theorem rf_blocks_of (k : Nat) (count_ : Int) (links_ : (List (Str × Int × Int))) : Ev (eL (eL eI)) (f_blocks_of (k + 2) [eI count_, (eL (eT3 eS eI eI)) links_]) (t_blocks_of count_ links_) := by
  show Ev (eL (eL eI)) (fnM 9 [true, false] (b_blocks_of (k + 1)) [eI count_, (eL (eT3 eS eI eI)) links_]) _
  exact rf_fn
    (s_setE (e := (eL eI)) (ev_ret (e := (eL eI)) (p_lc (e := (eT3 eS eI eI)) (f := eI) (xs := links_) (c := fun x1 => (decide (x1.1 = tx_next))) (g := fun x1 => x1.2.2) rfl (i_L (rfl : _ = M.ret ((eL (eT3 eS eI eI)) links_))) (fun _ => rfl) (fun x1 => (p_binT (rfl : _ = M.ret (eS x1.1)) (rfl : _ = M.ret (eS tx_next)) (o_eqE cS (by decide) _ _))) (fun x1 => (rfl : _ = M.ret (eI x1.2.2))))) (fun behind_v2 => (s_setOE (e := (eL (eL eI))) (ev_ret (e := (eL (eL eI))) (p_lstE (e := (eL eI)) (xs := ([] : List (List Int))) p_nil (p_len (n := 0) (by decide)))) (fun found_v3 => (s_forget (s_next (E := (fun (s : (List (List Int))) => [some (.bor (eI count_)), some (.val ((eL (eT3 eS eI eI)) links_)), some (.val ((eL eI) behind_v2)), some (.own ((eL (eL eI)) s)), none, none, none, none, none])) (l_forE (e := eI) (i_rg1 (rfl : _ = M.ret (eI count_))) (fun v21 => (rf_loopM (e := eI) (E := (fun (s : (List (List Int))) => [some (.bor (eI count_)), some (.val ((eL (eT3 eS eI eI)) links_)), some (.val ((eL eI) behind_v2)), some (.own ((eL (eL eI)) s)), none, none, none, none, none])) (fun _ _ => rfl) (fun x4 s5 => (s_next (E := (fun (s : (List (List Int))) => [some (.bor (eI count_)), some (.val ((eL (eT3 eS eI eI)) links_)), some (.val ((eL eI) behind_v2)), some (.own ((eL (eL eI)) s)), some (.val (eI x4)), none, none, none, none])) (s_ifP (p_binT (rfl : _ = M.ret (eI x4)) (rfl : _ = M.ret ((eL eI) behind_v2)) (o_mnotInL cI (by decide) _ _)) (s_setOE (e := (eL eI)) (ev_ret (e := (eL eI)) (p_lstE (e := eI) (xs := [x4]) (p_cons (rfl : _ = M.ret (eI x4)) p_nil) (p_len (n := 1) (by decide)))) (fun row_v6 => (s_next (E := (fun (s : (List Int)) => [some (.bor (eI count_)), some (.val ((eL (eT3 eS eI eI)) links_)), some (.val ((eL eI) behind_v2)), some (.own ((eL (eL eI)) s5)), some (.val (eI x4)), some (.own ((eL eI) s)), none, none, none])) (rf_whileM (E := (fun (s : (List Int)) => [some (.bor (eI count_)), some (.val ((eL (eT3 eS eI eI)) links_)), some (.val ((eL eI) behind_v2)), some (.own ((eL (eL eI)) s5)), some (.val (eI x4)), some (.own ((eL eI) s)), none, none, none])) (fun s7 => (t_E (b_EP (c_call (a_consP (d := (eL (eT3 eS eI eI)) links_) (rfl : _ = M.ret ((eL (eT3 eS eI eI)) links_)) (a_cons (b_PP (rfl : _ = M.ret ((eL eI) s7)) (p_neg (rfl : _ = M.ret (eI (1 : Int)))) (r_ix _ _)) (fun v8 => (a_nil (rf_next_of _ _ _)))))) (rfl : _ = M.ret (eN ())) (fun v9 => (ev_ret (e := eB) (o_isNotO nnI _)))))) (fun s7 => (s_appE (b_EP (b_PE (rfl : _ = M.ret ((eL (eT3 eS eI eI)) links_)) (q_OE (e := eI) (c_call (a_consP (d := (eL (eT3 eS eI eI)) links_) (rfl : _ = M.ret ((eL (eT3 eS eI eI)) links_)) (a_cons (b_PP (rfl : _ = M.ret ((eL eI) s7)) (p_neg (rfl : _ = M.ret (eI (1 : Int)))) (r_ix _ _)) (fun v11 => (a_nil (rf_next_of _ _ _))))))) (fun v13 => (r_ix _ _))) (rfl : _ = M.ret (eI (2 : Int))) (fun v14 => (ev_ret (e := eI) rfl))) rfl (fun row_v16 => (e_goX rfl)))) 100 row_v6) (fun s18 => (s_frz rfl (s_appP (e := (eL eI)) (xs := s5) (x := s18) (rfl : _ = M.ret ((eL eI) s18)) rfl (fun found_v19 => (e_goN rfl)))))))) (e_goN rfl)) (fun s20 => (e_goX rfl)))) v21 found_v3))) (fun s22 => (s_frz rfl (s_retP (r := s22) (x := s22) (fun _ => Or.inl rfl) (rfl : _ = M.ret ((eL (eL eI)) s22)))))))))))
end K84

set_option Elab.async false
set_option linter.all false
set_option maxRecDepth 100000
set_option maxHeartbeats 0
namespace K84
open PySem PySem.Spec L2 DL
def t_block_with (blocks_ : (List (List Int))) (word_ : Int) : M Int := (ixM (((enumT 0 blocks_).filter (fun x1 => (memT word_ x1.2))).map (fun x1 => x1.1)) (0 : Int))
theorem rf_block_with (k : Nat) (blocks_ : (List (List Int))) (word_ : Int) : Ev eI (f_block_with (k + 1) [(eL (eL eI)) blocks_, eI word_]) (t_block_with blocks_ word_) := by
  show Ev eI (fnM 4 [true, true] (b_block_with (k + 0)) [(eL (eL eI)) blocks_, eI word_]) _
  exact rf_fn
    (s_retF (fun _ _ => Or.inl rfl) (b_PP (p_lc (e := (eT2 eI (eL eI))) (f := eI) (xs := (enumT 0 blocks_)) (c := fun x1 => (memT word_ x1.2)) (g := fun x1 => x1.1) rfl (i_enum (rfl : _ = M.ret ((eL (eL eI)) blocks_))) (fun _ => rfl) (fun x1 => (p_binT (rfl : _ = M.ret (eI word_)) (rfl : _ = M.ret ((eL eI) x1.2)) (o_minL cI (by decide) _ _))) (fun x1 => (rfl : _ = M.ret (eI x1.1)))) (rfl : _ = M.ret (eI (0 : Int))) (r_ix _ _)))
end K84

set_option Elab.async false
set_option linter.all false
set_option maxRecDepth 100000
set_option maxHeartbeats 0
namespace K84
open PySem PySem.Spec L2 DL
def t_ties_of (blocks_ : (List (List Int))) (links_ : (List (Str × Int × Int))) : M (List (Int × Int × Int)) := (M.ret ([] : (List (Int × Int × Int)))) >>= fun found_v1 => ((loopM (fun x2 s3 => ((t_block_with blocks_ x2.2.2.1)) >>= fun first_v4 => ((t_block_with blocks_ x2.2.2.2)) >>= fun second_v5 => ((if ((decide (x2.2.1 = s_ahead)) && (!decide (first_v4 = second_v5))) then appM s3 (first_v4, second_v5, x2.1) >>= fun found_v6 => .ret found_v6 else .ret s3) : M (List (Int × Int × Int))) >>= fun s7 => .ret s7) (enumT 0 links_) found_v1) : M (List (Int × Int × Int))) >>= fun s9 => .ret s9
theorem rf_ties_of (k : Nat) (blocks_ : (List (List Int))) (links_ : (List (Str × Int × Int))) : Ev (eL (eT3 eI eI eI)) (f_ties_of (k + 2) [(eL (eL eI)) blocks_, (eL (eT3 eS eI eI)) links_]) (t_ties_of blocks_ links_) := by
  show Ev (eL (eT3 eI eI eI)) (fnM 9 [true, false] (b_ties_of (k + 1)) [(eL (eL eI)) blocks_, (eL (eT3 eS eI eI)) links_]) _
  exact rf_fn
    (s_setOE (e := (eL (eT3 eI eI eI))) (ev_ret (e := (eL (eT3 eI eI eI))) (p_lstE (e := (eT3 eI eI eI)) (xs := ([] : List (Int × Int × Int))) p_nil (p_len (n := 0) (by decide)))) (fun found_v1 => (s_forget (s_next (E := (fun (s : (List (Int × Int × Int))) => [some (.bor ((eL (eL eI)) blocks_)), some (.val ((eL (eT3 eS eI eI)) links_)), some (.own ((eL (eT3 eI eI eI)) s)), none, none, none, none, none, none])) (l_for (e := (eT2 eI (eT3 eS eI eI))) (i_enum (rfl : _ = M.ret ((eL (eT3 eS eI eI)) links_))) (rf_loopM (e := (eT2 eI (eT3 eS eI eI))) (E := (fun (s : (List (Int × Int × Int))) => [some (.bor ((eL (eL eI)) blocks_)), some (.val ((eL (eT3 eS eI eI)) links_)), some (.own ((eL (eT3 eI eI eI)) s)), none, none, none, none, none, none])) (fun _ _ => rfl) (fun x2 s3 => (s_parK (a_cons (e := eI) (c_call (a_consP (d := (eL (eL eI)) blocks_) (rfl : _ = M.ret ((eL (eL eI)) blocks_)) (a_consP (d := eI x2.2.2.1) (rfl : _ = M.ret (eI x2.2.2.1)) (a_nil (rf_block_with _ _ _))))) (fun first_v4 => (a_cons (e := eI) (c_call (a_consP (d := (eL (eL eI)) blocks_) (rfl : _ = M.ret ((eL (eL eI)) blocks_)) (a_consP (d := eI x2.2.2.2) (rfl : _ = M.ret (eI x2.2.2.2)) (a_nil (rf_block_with _ _ _))))) (fun second_v5 => (a_nil (k_par (s_next (E := (fun (s : (List (Int × Int × Int))) => [some (.bor ((eL (eL eI)) blocks_)), some (.val ((eL (eT3 eS eI eI)) links_)), some (.own ((eL (eT3 eI eI eI)) s)), some (.val (eI x2.1)), some (.val (eS x2.2.1)), some (.val (eI x2.2.2.1)), some (.val (eI x2.2.2.2)), some (.val (eI first_v4)), some (.val (eI second_v5))])) (s_ifP (p_and (p_binT (rfl : _ = M.ret (eS x2.2.1)) (rfl : _ = M.ret (eS s_ahead)) (o_eqE cS (by decide) _ _)) (p_binT (rfl : _ = M.ret (eI first_v4)) (rfl : _ = M.ret (eI second_v5)) (o_neE cI (by decide) _ _))) (s_appP (e := (eT3 eI eI eI)) (xs := s3) (x := (first_v4, second_v5, x2.1)) (p_tup (ds := [eI first_v4, eI second_v5, eI x2.1]) (p_cons (rfl : _ = M.ret (eI first_v4)) (p_cons (rfl : _ = M.ret (eI second_v5)) (p_cons (rfl : _ = M.ret (eI x2.1)) p_nil))) (p_len (n := 3) (by decide))) rfl (fun found_v6 => (e_goN rfl))) (e_goN rfl)) (fun s7 => (e_goX rfl))))))))))) (enumT 0 links_) found_v1)) (fun s9 => (s_frz rfl (s_retP (r := s9) (x := s9) (fun _ => Or.inl rfl) (rfl : _ = M.ret ((eL (eT3 eI eI eI)) s9)))))))))
end K84

set_option Elab.async false
set_option linter.all false
set_option maxRecDepth 100000
set_option maxHeartbeats 0
namespace K84
open PySem PySem.Spec L2 DL
def t_wrong_within (blocks_ : (List (List Int))) (links_ : (List (Str × Int × Int))) : M (Option Int) := ((loopR (fun x1 s2 => (((t_block_with blocks_ x1.2.2.1)) >>= fun v4 => (ixM blocks_ v4)) >>= fun row_v5 => ((if (decide (x1.2.1 = s_ahead)) then (if (memT x1.2.2.2 row_v5) then ((indexM row_v5 x1.2.2.1) >>= fun v6 => (indexM row_v5 x1.2.2.2) >>= fun v7 => .ret (decide (v7 ≤ v6))) else .ret false) else .ret false) >>= fun kb => if kb then .ret (.back (some x1.1)) else .ret (.go ()))) (enumT 0 links_) ()) : M (Fw Unit (Option Int))) >>= contR (fun s9 => .ret (none : (Option Int))) (fun r => r)
theorem rf_wrong_within (k : Nat) (blocks_ : (List (List Int))) (links_ : (List (Str × Int × Int))) : Ev (eO eI) (f_wrong_within (k + 2) [(eL (eL eI)) blocks_, (eL (eT3 eS eI eI)) links_]) (t_wrong_within blocks_ links_) := by
  show Ev (eO eI) (fnM 7 [true, false] (b_wrong_within (k + 1)) [(eL (eL eI)) blocks_, (eL (eT3 eS eI eI)) links_]) _
  exact rf_fn
    (s_forget (s_nextR (E := (fun (s : Unit) => [some (.bor ((eL (eL eI)) blocks_)), some (.val ((eL (eT3 eS eI eI)) links_)), none, none, none, none, none])) (eρ := (eO eI)) (f := fun r => r) (fun _ _ => Or.inl rfl) (l_for (e := (eT2 eI (eT3 eS eI eI))) (i_enum (rfl : _ = M.ret ((eL (eT3 eS eI eI)) links_))) (rf_loopR (e := (eT2 eI (eT3 eS eI eI))) (E := (fun (s : Unit) => [some (.bor ((eL (eL eI)) blocks_)), some (.val ((eL (eT3 eS eI eI)) links_)), none, none, none, none, none])) (eρ := (eO eI)) (fun _ _ => rfl) (fun x1 s2 => (s_setE (e := (eL eI)) (b_PE (rfl : _ = M.ret ((eL (eL eI)) blocks_)) (c_call (a_consP (d := (eL (eL eI)) blocks_) (rfl : _ = M.ret ((eL (eL eI)) blocks_)) (a_consP (d := eI x1.2.2.1) (rfl : _ = M.ret (eI x1.2.2.1)) (a_nil (rf_block_with _ _ _))))) (fun v4 => (r_ix _ _))) (fun row_v5 => (s_iff (r_andP (p_binT (rfl : _ = M.ret (eS x1.2.1)) (rfl : _ = M.ret (eS s_ahead)) (o_eqE cS (by decide) _ _)) (r_andP (p_binT (rfl : _ = M.ret (eI x1.2.2.2)) (rfl : _ = M.ret ((eL eI) row_v5)) (o_minL cI (by decide) _ _)) (t_E (b_EE (r_index cI (by decide) (rfl : _ = M.ret ((eL eI) row_v5)) (rfl : _ = M.ret (eI x1.2.2.1))) (r_index cI (by decide) (rfl : _ = M.ret ((eL eI) row_v5)) (rfl : _ = M.ret (eI x1.2.2.2))) (fun v6 v7 => (ev_ret (e := eB) rfl)))))) (s_retP (r := (some x1.1)) (x := Fw.back (some x1.1)) (fun _ => ⟨(fun z => nomatch z), rfl⟩) (rfl : _ = M.ret (eI x1.1))) (s_skip (e_goT rfl)))))) (enumT 0 links_) ())) (fun s9 => (s_retP (r := (none : (Option Int))) (x := (none : (Option Int))) (fun _ => Or.inl rfl) (rfl : _ = M.ret (eN ()))))))
end K84

set_option Elab.async false
set_option linter.all false
set_option maxRecDepth 100000
set_option maxHeartbeats 0
namespace K84
open PySem PySem.Spec L2 DL
def t_ring_of (ties_ : (List (Int × Int × Int))) (left_ : (List Int)) : M (List Int) := ((ixM left_ (0 : Int)) >>= fun v1 => .ret [v1]) >>= fun row_v2 => (M.ret ([] : (List Int))) >>= fun links_v3 => ((whileM (fun s4 => ((ixM s4.1 (-(1 : Int))) >>= fun v5 => .ret (!memT v5 (cutD s4.1 none (some (-(1 : Int))))))) (fun s4 => (((lcM (fun x7 => (((ixM s4.1 (-(1 : Int))) >>= fun v9 => .ret (decide (x7.2.1 = v9))) >>= fun kb => if kb then (M.ret (memT x7.1 left_)) else .ret false)) (fun x7 => (M.ret (x7.1, x7.2.2)))) ties_) >>= fun v10 => (ixM v10 (0 : Int))) >>= fun u12 => appM s4.1 u12.1 >>= fun row_v13 => appM s4.2 u12.2 >>= fun links_v14 => .ret (row_v13, links_v14)) 100 (row_v2, links_v3)) : M ((List Int) × (List Int))) >>= fun s15 => ((((ixM s15.1 (-(1 : Int))) >>= fun v16 => indexM s15.1 v16) >>= fun v17 => .ret (cutD s15.2 (some v17) none)) >>= fun v19 => .ret v19.reverse)
theorem rf_ring_of (k : Nat) (ties_ : (List (Int × Int × Int))) (left_ : (List Int)) : Ev (eL eI) (f_ring_of (k + 1) [(eL (eT3 eI eI eI)) ties_, (eL eI) left_]) (t_ring_of ties_ left_) := by
  show Ev (eL eI) (fnM 9 [true, true] (b_ring_of (k + 0)) [(eL (eT3 eI eI eI)) ties_, (eL eI) left_]) _
  exact rf_fn
    (s_setOE (e := (eL eI)) (r_lst (a_cons (b_PP (rfl : _ = M.ret ((eL eI) left_)) (rfl : _ = M.ret (eI (0 : Int))) (r_ix _ _)) (fun v1 => (a_nil (k_disp (R := Re (eL eI)) (r := ([v1] : (List Int))) (p_len (n := 1) (by decide)) rfl))))) (fun row_v2 => (s_setOE (e := (eL eI)) (ev_ret (e := (eL eI)) (p_lstE (e := eI) (xs := ([] : List Int)) p_nil (p_len (n := 0) (by decide)))) (fun links_v3 => (s_forget (s_next (E := (fun (s : ((List Int) × (List Int))) => [some (.bor ((eL (eT3 eI eI eI)) ties_)), some (.bor ((eL eI) left_)), some (.own ((eL eI) s.1)), some (.own ((eL eI) s.2)), none, none, none, none, none])) (rf_whileM (E := (fun (s : ((List Int) × (List Int))) => [some (.bor ((eL (eT3 eI eI eI)) ties_)), some (.bor ((eL eI) left_)), some (.own ((eL eI) s.1)), some (.own ((eL eI) s.2)), none, none, none, none, none])) (fun s4 => (t_E (b_EP (b_PP (rfl : _ = M.ret ((eL eI) s4.1)) (p_neg (rfl : _ = M.ret (eI (1 : Int)))) (r_ix _ _)) (p_sl (rfl : _ = M.ret ((eL eI) s4.1)) po_n (po_s (p_neg (rfl : _ = M.ret (eI (1 : Int))))) (o_slL _ _ _)) (fun v5 => (ev_ret (e := eB) (o_mnotInL cI (by decide) _ _)))))) (fun s4 => (s_asgE (e := (eT2 eI eI)) (b_EP (r_lc rfl (i_L (rfl : _ = M.ret ((eL (eT3 eI eI eI)) ties_))) (fun _ => rfl) (fun x7 => (r_and (t_E (b_PE (rfl : _ = M.ret (eI x7.2.1)) (b_PP (rfl : _ = M.ret ((eL eI) s4.1)) (p_neg (rfl : _ = M.ret (eI (1 : Int)))) (r_ix _ _)) (fun v9 => (ev_ret (e := eB) (o_eqE cI (by decide) _ _))))) (et_ret (p_binT (rfl : _ = M.ret (eI x7.1)) (rfl : _ = M.ret ((eL eI) left_)) (o_minL cI (by decide) _ _))))) (fun x7 => (ev_ret (e := (eT2 eI eI)) (p_tup (ds := [eI x7.1, eI x7.2.2]) (p_cons (rfl : _ = M.ret (eI x7.1)) (p_cons (rfl : _ = M.ret (eI x7.2.2)) p_nil)) (p_len (n := 2) (by decide)))))) (rfl : _ = M.ret (eI (0 : Int))) (fun v10 => (r_ix _ _))) (fun _ => rfl) (fun u12 => (s_appP (e := eI) (xs := s4.1) (x := u12.1) (rfl : _ = M.ret (eI u12.1)) rfl (fun row_v13 => (s_appP (e := eI) (xs := s4.2) (x := u12.2) (rfl : _ = M.ret (eI u12.2)) rfl (fun links_v14 => (e_goX rfl)))))))) 100 (row_v2, links_v3)) (fun s15 => (s_retF (fun _ _ => Or.inl rfl) (r_rev (r_slLo (rfl : _ = M.ret ((eL eI) s15.2)) (r_indexE cI (by decide) (rfl : _ = M.ret ((eL eI) s15.1)) (b_PP (rfl : _ = M.ret ((eL eI) s15.1)) (p_neg (rfl : _ = M.ret (eI (1 : Int)))) (r_ix _ _))) po_n (fun _ => o_slL _ _ _)))))))))))
end K84

set_option Elab.async false
set_option linter.all false
set_option maxRecDepth 100000
set_option maxHeartbeats 0
namespace K84
open PySem PySem.Spec L2 DL
def t_ordered (count_ : Int) (links_ : (List (Str × Int × Int))) : M D := ((t_two_nexts links_)) >>= fun two_v1 => (if (!two_v1.isNone) then (dAdd ((eT1 eS) s_two) ((eO (eT2 eI eI)) two_v1)) else ((t_round_of links_)) >>= fun row_v2 => (if (!row_v2.isNone) then .ret ((eT2 eS (eO (eL eI))) (s_round, row_v2)) else ((t_blocks_of count_ links_)) >>= fun blocks_v3 => ((t_wrong_within blocks_v3 links_)) >>= fun wrong_v4 => (if (!wrong_v4.isNone) then .ret ((eT2 eS (eL (eO eI))) (s_ring, [wrong_v4])) else ((t_ties_of blocks_v3 links_)) >>= fun ties_v5 => (rgM 0 ((blocks_v3.length : Nat) : Int)) >>= fun left_v6 => (M.ret ([] : (List Int))) >>= fun found_v7 => ((whileR (fun s8 => (M.ret (!s8.1.isEmpty))) (fun s8 => (M.ret ((s8.1.filter (fun x9 => (!((ties_v5.map (fun x10 => ((decide (x10.2.1 = x9)) && (memT x10.1 s8.1)))).any id)))).map (fun x9 => x9))) >>= fun free_v11 => (if (!(!free_v11.isEmpty)) then ((((t_ring_of ties_v5 s8.1)) >>= fun v12 => .ret (s_ring, v12)) >>= fun v13 => .ret ((eT2 eS (eL eI)) v13)) >>= fun r => .ret (.back r) else (((ixM free_v11 (0 : Int)) >>= fun v15 => (ixM blocks_v3 v15)) >>= fun v17 => (catM s8.2 v17)) >>= fun found_v18 => ((lcM (fun x19 => ((ixM free_v11 (0 : Int)) >>= fun v21 => .ret (!decide (x19 = v21)))) (fun x19 => (M.ret x19))) s8.1) >>= fun left_v22 => .ret (.go (left_v22, found_v18)))) 100 (left_v6, found_v7)) : M (Fw ((List Int) × (List Int)) D)) >>= contR (fun s23 => .ret ((eT2 eS (eL eI)) (s_order, s23.2))) (fun r => r))))
theorem rf_ordered (k : Nat) (count_ : Int) (links_ : (List (Str × Int × Int))) : Ev eD (f_ordered (k + 3) [eI count_, (eL (eT3 eS eI eI)) links_]) (t_ordered count_ links_) := by
  show Ev eD (fnM 14 [true, false] (b_ordered (k + 2)) [eI count_, (eL (eT3 eS eI eI)) links_]) _
  exact rf_fn
    (s_env (env' := [some (.bor (eI count_)), some (.val ((eL (eT3 eS eI eI)) links_)), none, none, none, none, none, none, none, none, none, none, none, none]) rfl (s_setE (e := (eO (eT2 eI eI))) (c_call (a_consP (d := (eL (eT3 eS eI eI)) links_) (rfl : _ = M.ret ((eL (eT3 eS eI eI)) links_)) (a_nil (rf_two_nexts _ _)))) (fun two_v1 => (s_env (env' := [some (.bor (eI count_)), some (.val ((eL (eT3 eS eI eI)) links_)), some (.val ((eO (eT2 eI eI)) two_v1)), none, none, none, none, none, none, none, none, none, none, none]) rfl (s_iffP (p_binT (rfl : _ = M.ret ((eO (eT2 eI eI)) two_v1)) (rfl : _ = M.ret (eN ())) (o_isNotO nnT2 _)) (s_env (env' := [some (.bor (eI count_)), some (.val ((eL (eT3 eS eI eI)) links_)), some (.val ((eO (eT2 eI eI)) two_v1)), none, none, none, none, none, none, none, none, none, none, none]) rfl (s_retF (fun _ _ => ⟨(fun z => nomatch z), Or.inl rfl⟩) (b_PP (p_tup (ds := [eS s_two]) (p_cons (rfl : _ = M.ret (eS s_two)) p_nil) (p_len (n := 1) (by decide))) (rfl : _ = M.ret ((eO (eT2 eI eI)) two_v1)) (ev_id _)))) (s_skip (s_env (env' := [some (.bor (eI count_)), some (.val ((eL (eT3 eS eI eI)) links_)), some (.val ((eO (eT2 eI eI)) two_v1)), none, none, none, none, none, none, none, none, none, none, none]) rfl (s_setE (e := (eO (eL eI))) (c_call (a_consP (d := (eL (eT3 eS eI eI)) links_) (rfl : _ = M.ret ((eL (eT3 eS eI eI)) links_)) (a_nil (rf_round_of _ _)))) (fun row_v2 => (s_env (env' := [some (.bor (eI count_)), some (.val ((eL (eT3 eS eI eI)) links_)), some (.val ((eO (eT2 eI eI)) two_v1)), some (.val ((eO (eL eI)) row_v2)), none, none, none, none, none, none, none, none, none, none]) rfl (s_iffP (p_binT (rfl : _ = M.ret ((eO (eL eI)) row_v2)) (rfl : _ = M.ret (eN ())) (o_isNotO nnL _)) (s_env (env' := [some (.bor (eI count_)), some (.val ((eL (eT3 eS eI eI)) links_)), some (.val ((eO (eT2 eI eI)) two_v1)), some (.val ((eO (eL eI)) row_v2)), none, none, none, none, none, none, none, none, none, none]) rfl (s_retP (r := ((eT2 eS (eO (eL eI))) (s_round, row_v2))) (x := ((eT2 eS (eO (eL eI))) (s_round, row_v2))) (fun _ => ⟨(fun z => nomatch z), Or.inl rfl⟩) (p_tup (ds := [eS s_round, (eO (eL eI)) row_v2]) (p_cons (rfl : _ = M.ret (eS s_round)) (p_cons (rfl : _ = M.ret ((eO (eL eI)) row_v2)) p_nil)) (p_len (n := 2) (by decide))))) (s_skip (s_env (env' := [some (.bor (eI count_)), some (.val ((eL (eT3 eS eI eI)) links_)), some (.val ((eO (eT2 eI eI)) two_v1)), some (.val ((eO (eL eI)) row_v2)), none, none, none, none, none, none, none, none, none, none]) rfl (s_setE (e := (eL (eL eI))) (c_call (a_consP (d := eI count_) (rfl : _ = M.ret (eI count_)) (a_consP (d := (eL (eT3 eS eI eI)) links_) (rfl : _ = M.ret ((eL (eT3 eS eI eI)) links_)) (a_nil (rf_blocks_of _ _ _))))) (fun blocks_v3 => (s_env (env' := [some (.bor (eI count_)), some (.val ((eL (eT3 eS eI eI)) links_)), some (.val ((eO (eT2 eI eI)) two_v1)), some (.val ((eO (eL eI)) row_v2)), some (.val ((eL (eL eI)) blocks_v3)), none, none, none, none, none, none, none, none, none]) rfl (s_setE (e := (eO eI)) (c_call (a_consP (d := (eL (eL eI)) blocks_v3) (rfl : _ = M.ret ((eL (eL eI)) blocks_v3)) (a_consP (d := (eL (eT3 eS eI eI)) links_) (rfl : _ = M.ret ((eL (eT3 eS eI eI)) links_)) (a_nil (rf_wrong_within _ _ _))))) (fun wrong_v4 => (s_env (env' := [some (.bor (eI count_)), some (.val ((eL (eT3 eS eI eI)) links_)), some (.val ((eO (eT2 eI eI)) two_v1)), some (.val ((eO (eL eI)) row_v2)), some (.val ((eL (eL eI)) blocks_v3)), some (.val ((eO eI) wrong_v4)), none, none, none, none, none, none, none, none]) rfl (s_iffP (p_binT (rfl : _ = M.ret ((eO eI) wrong_v4)) (rfl : _ = M.ret (eN ())) (o_isNotO nnI _)) (s_env (env' := [some (.bor (eI count_)), some (.val ((eL (eT3 eS eI eI)) links_)), some (.val ((eO (eT2 eI eI)) two_v1)), some (.val ((eO (eL eI)) row_v2)), some (.val ((eL (eL eI)) blocks_v3)), some (.val ((eO eI) wrong_v4)), none, none, none, none, none, none, none, none]) rfl (s_retP (r := ((eT2 eS (eL (eO eI))) (s_ring, [wrong_v4]))) (x := ((eT2 eS (eL (eO eI))) (s_ring, [wrong_v4]))) (fun _ => ⟨(fun z => nomatch z), Or.inl rfl⟩) (p_tup (ds := [eS s_ring, (eL (eO eI)) [wrong_v4]]) (p_cons (rfl : _ = M.ret (eS s_ring)) (p_cons (p_lstE (e := (eO eI)) (xs := [wrong_v4]) (p_cons (rfl : _ = M.ret ((eO eI) wrong_v4)) p_nil) (p_len (n := 1) (by decide))) p_nil)) (p_len (n := 2) (by decide))))) (s_skip (s_env (env' := [some (.bor (eI count_)), some (.val ((eL (eT3 eS eI eI)) links_)), some (.val ((eO (eT2 eI eI)) two_v1)), some (.val ((eO (eL eI)) row_v2)), some (.val ((eL (eL eI)) blocks_v3)), some (.val ((eO eI) wrong_v4)), none, none, none, none, none, none, none, none]) rfl (s_setE (e := (eL (eT3 eI eI eI))) (c_call (a_consP (d := (eL (eL eI)) blocks_v3) (rfl : _ = M.ret ((eL (eL eI)) blocks_v3)) (a_consP (d := (eL (eT3 eS eI eI)) links_) (rfl : _ = M.ret ((eL (eT3 eS eI eI)) links_)) (a_nil (rf_ties_of _ _ _))))) (fun ties_v5 => (s_env (env' := [some (.bor (eI count_)), some (.val ((eL (eT3 eS eI eI)) links_)), some (.val ((eO (eT2 eI eI)) two_v1)), some (.val ((eO (eL eI)) row_v2)), some (.val ((eL (eL eI)) blocks_v3)), some (.val ((eO eI) wrong_v4)), some (.val ((eL (eT3 eI eI eI)) ties_v5)), none, none, none, none, none, none, none]) rfl (s_setE (e := (eL eI)) (r_lrg1 (p_call (p_cons (rfl : _ = M.ret ((eL (eL eI)) blocks_v3)) p_nil) (o_lenL _))) (fun left_v6 => (s_env (env' := [some (.bor (eI count_)), some (.val ((eL (eT3 eS eI eI)) links_)), some (.val ((eO (eT2 eI eI)) two_v1)), some (.val ((eO (eL eI)) row_v2)), some (.val ((eL (eL eI)) blocks_v3)), some (.val ((eO eI) wrong_v4)), some (.val ((eL (eT3 eI eI eI)) ties_v5)), some (.val ((eL eI) left_v6)), none, none, none, none, none, none]) rfl (s_setE (e := (eL eI)) (ev_ret (e := (eL eI)) (p_lstE (e := eI) (xs := ([] : List Int)) p_nil (p_len (n := 0) (by decide)))) (fun found_v7 => (s_forget (s_env (env' := [some (.bor (eI count_)), some (.val ((eL (eT3 eS eI eI)) links_)), some (.val ((eO (eT2 eI eI)) two_v1)), some (.val ((eO (eL eI)) row_v2)), some (.val ((eL (eL eI)) blocks_v3)), some (.val ((eO eI) wrong_v4)), some (.val ((eL (eT3 eI eI eI)) ties_v5)), some (.val ((eL eI) left_v6)), some (.val ((eL eI) found_v7)), none, none, none, none, none]) rfl (s_nextR (E := (fun (s : ((List Int) × (List Int))) => [some (.bor (eI count_)), some (.val ((eL (eT3 eS eI eI)) links_)), some (.val ((eO (eT2 eI eI)) two_v1)), some (.val ((eO (eL eI)) row_v2)), some (.val ((eL (eL eI)) blocks_v3)), some (.val ((eO eI) wrong_v4)), some (.val ((eL (eT3 eI eI eI)) ties_v5)), some (.val ((eL eI) s.1)), some (.val ((eL eI) s.2)), none, none, none, none, none])) (eρ := eD) (f := fun r => r) (fun _ _ => Or.inl rfl) (rf_whileR (E := (fun (s : ((List Int) × (List Int))) => [some (.bor (eI count_)), some (.val ((eL (eT3 eS eI eI)) links_)), some (.val ((eO (eT2 eI eI)) two_v1)), some (.val ((eO (eL eI)) row_v2)), some (.val ((eL (eL eI)) blocks_v3)), some (.val ((eO eI) wrong_v4)), some (.val ((eL (eT3 eI eI eI)) ties_v5)), some (.val ((eL eI) s.1)), some (.val ((eL eI) s.2)), none, none, none, none, none])) (eρ := eD) (fun s8 => (et_ret (p_tru (rfl : _ = M.ret ((eL eI) s8.1)) (t_L _)))) (fun s8 => (s_env (env' := [some (.bor (eI count_)), some (.val ((eL (eT3 eS eI eI)) links_)), some (.val ((eO (eT2 eI eI)) two_v1)), some (.val ((eO (eL eI)) row_v2)), some (.val ((eL (eL eI)) blocks_v3)), some (.val ((eO eI) wrong_v4)), some (.val ((eL (eT3 eI eI eI)) ties_v5)), some (.val ((eL eI) s8.1)), some (.val ((eL eI) s8.2)), none, none, none, none, none]) rfl (s_setE (e := (eL eI)) (ev_ret (e := (eL eI)) (p_lc (e := eI) (f := eI) (xs := s8.1) (c := fun x9 => (!((ties_v5.map (fun x10 => ((decide (x10.2.1 = x9)) && (memT x10.1 s8.1)))).any id))) (g := fun x9 => x9) rfl (i_L (rfl : _ = M.ret ((eL eI) s8.1))) (fun _ => rfl) (fun x9 => (p_not (p_tru (p_call (p_cons (p_lcA (e := (eT3 eI eI eI)) (f := eB) (xs := ties_v5) (g := fun x10 => ((decide (x10.2.1 = x9)) && (memT x10.1 s8.1))) rfl (i_L (rfl : _ = M.ret ((eL (eT3 eI eI eI)) ties_v5))) (fun _ => rfl) (fun x10 => (p_andV (p_bin (rfl : _ = M.ret (eI x10.2.1)) (rfl : _ = M.ret (eI x9)) (o_eqE cI (by decide) _ _)) (p_bin (rfl : _ = M.ret (eI x10.1)) (rfl : _ = M.ret ((eL eI) s8.1)) (o_minL cI (by decide) _ _))))) p_nil) (o_any _)) rfl))) (fun x9 => (rfl : _ = M.ret (eI x9))))) (fun free_v11 => (s_env (env' := [some (.bor (eI count_)), some (.val ((eL (eT3 eS eI eI)) links_)), some (.val ((eO (eT2 eI eI)) two_v1)), some (.val ((eO (eL eI)) row_v2)), some (.val ((eL (eL eI)) blocks_v3)), some (.val ((eO eI) wrong_v4)), some (.val ((eL (eT3 eI eI eI)) ties_v5)), some (.val ((eL eI) s8.1)), some (.val ((eL eI) s8.2)), some (.val ((eL eI) free_v11)), none, none, none, none]) rfl (s_iffP (p_not (p_tru (rfl : _ = M.ret ((eL eI) free_v11)) (t_L _))) (s_env (env' := [some (.bor (eI count_)), some (.val ((eL (eT3 eS eI eI)) links_)), some (.val ((eO (eT2 eI eI)) two_v1)), some (.val ((eO (eL eI)) row_v2)), some (.val ((eL (eL eI)) blocks_v3)), some (.val ((eO eI) wrong_v4)), some (.val ((eL (eT3 eI eI eI)) ties_v5)), some (.val ((eL eI) s8.1)), some (.val ((eL eI) s8.2)), some (.val ((eL eI) free_v11)), none, none, none, none]) rfl (s_retE (f := Fw.back) (fun _ _ => ⟨(fun z => nomatch z), rfl⟩) (ev_toD (r_tup (a_consP (d := eS s_ring) (rfl : _ = M.ret (eS s_ring)) (a_cons (c_call (a_consP (d := (eL (eT3 eI eI eI)) ties_v5) (rfl : _ = M.ret ((eL (eT3 eI eI eI)) ties_v5)) (a_consP (d := (eL eI) s8.1) (rfl : _ = M.ret ((eL eI) s8.1)) (a_nil (rf_ring_of _ _ _))))) (fun v12 => (a_nil (k_disp (R := Re (eT2 eS (eL eI))) (r := ((s_ring, v12) : (Str × (List Int)))) (p_len (n := 2) (by decide)) rfl))))))))) (s_skip (s_env (env' := [some (.bor (eI count_)), some (.val ((eL (eT3 eS eI eI)) links_)), some (.val ((eO (eT2 eI eI)) two_v1)), some (.val ((eO (eL eI)) row_v2)), some (.val ((eL (eL eI)) blocks_v3)), some (.val ((eO eI) wrong_v4)), some (.val ((eL (eT3 eI eI eI)) ties_v5)), some (.val ((eL eI) s8.1)), some (.val ((eL eI) s8.2)), some (.val ((eL eI) free_v11)), none, none, none, none]) rfl (s_setE (e := (eL eI)) (b_PE (rfl : _ = M.ret ((eL eI) s8.2)) (b_PE (rfl : _ = M.ret ((eL (eL eI)) blocks_v3)) (b_PP (rfl : _ = M.ret ((eL eI) free_v11)) (rfl : _ = M.ret (eI (0 : Int))) (r_ix _ _)) (fun v15 => (r_ix _ _))) (fun v17 => (r_cat _ _))) (fun found_v18 => (s_env (env' := [some (.bor (eI count_)), some (.val ((eL (eT3 eS eI eI)) links_)), some (.val ((eO (eT2 eI eI)) two_v1)), some (.val ((eO (eL eI)) row_v2)), some (.val ((eL (eL eI)) blocks_v3)), some (.val ((eO eI) wrong_v4)), some (.val ((eL (eT3 eI eI eI)) ties_v5)), some (.val ((eL eI) s8.1)), some (.val ((eL eI) found_v18)), some (.val ((eL eI) free_v11)), none, none, none, none]) rfl (s_setE (e := (eL eI)) (r_lc rfl (i_L (rfl : _ = M.ret ((eL eI) s8.1))) (fun _ => rfl) (fun x19 => (t_E (b_PE (rfl : _ = M.ret (eI x19)) (b_PP (rfl : _ = M.ret ((eL eI) free_v11)) (rfl : _ = M.ret (eI (0 : Int))) (r_ix _ _)) (fun v21 => (ev_ret (e := eB) (o_neE cI (by decide) _ _)))))) (fun x19 => (ev_ret (e := eI) (rfl : _ = M.ret (eI x19))))) (fun left_v22 => (e_goT rfl)))))))))))))) 100 (left_v6, found_v7)) (fun s23 => (s_env (env' := [some (.bor (eI count_)), some (.val ((eL (eT3 eS eI eI)) links_)), some (.val ((eO (eT2 eI eI)) two_v1)), some (.val ((eO (eL eI)) row_v2)), some (.val ((eL (eL eI)) blocks_v3)), some (.val ((eO eI) wrong_v4)), some (.val ((eL (eT3 eI eI eI)) ties_v5)), some (.val ((eL eI) s23.1)), some (.val ((eL eI) s23.2)), none, none, none, none, none]) rfl (s_retP (r := ((eT2 eS (eL eI)) (s_order, s23.2))) (x := ((eT2 eS (eL eI)) (s_order, s23.2))) (fun _ => Or.inl rfl) (p_tup (ds := [eS s_order, (eL eI) s23.2]) (p_cons (rfl : _ = M.ret (eS s_order)) (p_cons (rfl : _ = M.ret ((eL eI) s23.2)) p_nil)) (p_len (n := 2) (by decide)))))))))))))))))))))))))))))))))))))))
end K84

set_option Elab.async false
set_option linter.all false
set_option maxRecDepth 100000
set_option maxHeartbeats 0
namespace K84
open PySem PySem.Spec L2 DL
def t_together (links_ : (List (Str × Int × Int))) (word_ : Int) : M (List Int) := (M.ret [word_]) >>= fun found_v1 => ((whileM (fun s2 => (M.ret (decide (s2.2 < ((s2.1.length : Nat) : Int))))) (fun s2 => ((lcM (fun x3 => (if (decide (x3.1 = tx_next)) then (((ixM s2.1 s2.2) >>= fun v5 => .ret (decide (x3.2.1 = v5))) >>= fun kb => if kb then (M.ret (!memT x3.2.2 s2.1)) else .ret false) else .ret false)) (fun x3 => (M.ret x3.2.2))) links_) >>= fun v13 => catM s2.1 v13 >>= fun found_v6 => ((lcM (fun x7 => (if (decide (x7.1 = tx_next)) then (((ixM found_v6 s2.2) >>= fun v9 => .ret (decide (x7.2.2 = v9))) >>= fun kb => if kb then (M.ret (!memT x7.2.1 found_v6)) else .ret false) else .ret false)) (fun x7 => (M.ret x7.2.1))) links_) >>= fun v12 => catM found_v6 v12 >>= fun found_v10 => (M.ret (s2.2 + (1 : Int))) >>= fun at_v11 => .ret (found_v10, at_v11)) 100 (found_v1, (0 : Int))) : M ((List Int) × Int)) >>= fun s14 => .ret s14.1
theorem rf_together (k : Nat) (links_ : (List (Str × Int × Int))) (word_ : Int) : Ev (eL eI) (f_together (k + 1) [(eL (eT3 eS eI eI)) links_, eI word_]) (t_together links_ word_) := by
  show Ev (eL eI) (fnM 7 [true, false] (b_together (k + 0)) [(eL (eT3 eS eI eI)) links_, eI word_]) _
  exact rf_fn
    (s_setOE (e := (eL eI)) (ev_ret (e := (eL eI)) (p_lstE (e := eI) (xs := [word_]) (p_cons (rfl : _ = M.ret (eI word_)) p_nil) (p_len (n := 1) (by decide)))) (fun found_v1 => (s_setP (rfl : _ = M.ret (eI (0 : Int))) (s_next (E := (fun (s : ((List Int) × Int)) => [some (.bor ((eL (eT3 eS eI eI)) links_)), some (.val (eI word_)), some (.own ((eL eI) s.1)), some (.val (eI s.2)), none, none, none])) (rf_whileM (E := (fun (s : ((List Int) × Int)) => [some (.bor ((eL (eT3 eS eI eI)) links_)), some (.val (eI word_)), some (.own ((eL eI) s.1)), some (.val (eI s.2)), none, none, none])) (fun s2 => (et_ret (p_binT (rfl : _ = M.ret (eI s2.2)) (p_call (p_cons (rfl : _ = M.ret ((eL eI) s2.1)) p_nil) (o_lenL _)) rfl))) (fun s2 => (s_extE (r_lc rfl (i_L (rfl : _ = M.ret ((eL (eT3 eS eI eI)) links_))) (fun _ => rfl) (fun x3 => (r_andP (p_binT (rfl : _ = M.ret (eS x3.1)) (rfl : _ = M.ret (eS tx_next)) (o_eqE cS (by decide) _ _)) (r_and (t_E (b_PE (rfl : _ = M.ret (eI x3.2.1)) (b_PP (rfl : _ = M.ret ((eL eI) s2.1)) (rfl : _ = M.ret (eI s2.2)) (r_ix _ _)) (fun v5 => (ev_ret (e := eB) (o_eqE cI (by decide) _ _))))) (et_ret (p_binT (rfl : _ = M.ret (eI x3.2.2)) (rfl : _ = M.ret ((eL eI) s2.1)) (o_mnotInL cI (by decide) _ _)))))) (fun x3 => (ev_ret (e := eI) (rfl : _ = M.ret (eI x3.2.2))))) rfl (fun found_v6 => (s_extE (r_lc rfl (i_L (rfl : _ = M.ret ((eL (eT3 eS eI eI)) links_))) (fun _ => rfl) (fun x7 => (r_andP (p_binT (rfl : _ = M.ret (eS x7.1)) (rfl : _ = M.ret (eS tx_next)) (o_eqE cS (by decide) _ _)) (r_and (t_E (b_PE (rfl : _ = M.ret (eI x7.2.2)) (b_PP (rfl : _ = M.ret ((eL eI) found_v6)) (rfl : _ = M.ret (eI s2.2)) (r_ix _ _)) (fun v9 => (ev_ret (e := eB) (o_eqE cI (by decide) _ _))))) (et_ret (p_binT (rfl : _ = M.ret (eI x7.2.1)) (rfl : _ = M.ret ((eL eI) found_v6)) (o_mnotInL cI (by decide) _ _)))))) (fun x7 => (ev_ret (e := eI) (rfl : _ = M.ret (eI x7.2.1))))) rfl (fun found_v10 => (s_setE (e := eI) (ev_ret (e := eI) (p_bin (rfl : _ = M.ret (eI s2.2)) (rfl : _ = M.ret (eI (1 : Int))) rfl)) (fun at_v11 => (e_goX rfl)))))))) 100 (found_v1, (0 : Int))) (fun s14 => (s_frz rfl (s_retP (r := s14.1) (x := s14.1) (fun _ => Or.inl rfl) (rfl : _ = M.ret ((eL eI) s14.1)))))))))
end K84

set_option Elab.async false
set_option linter.all false
set_option maxRecDepth 100000
set_option maxHeartbeats 0
namespace K84
open PySem PySem.Spec L2 DL
def t_along (links_ : (List (Str × Int × Int))) (word_ : Int) : M (List Int) := (M.ret [word_]) >>= fun found_v1 => ((whileM (fun s2 => (M.ret (decide (s2.2 < ((s2.1.length : Nat) : Int))))) (fun s2 => ((lcM (fun x3 => (if (decide (x3.1 = tx_next)) then (((ixM s2.1 s2.2) >>= fun v5 => .ret (decide (x3.2.1 = v5))) >>= fun kb => if kb then (M.ret (!memT x3.2.2 s2.1)) else .ret false) else .ret false)) (fun x3 => (M.ret x3.2.2))) links_) >>= fun v8 => catM s2.1 v8 >>= fun found_v6 => (M.ret (s2.2 + (1 : Int))) >>= fun at_v7 => .ret (found_v6, at_v7)) 100 (found_v1, (0 : Int))) : M ((List Int) × Int)) >>= fun s9 => .ret s9.1
theorem rf_along (k : Nat) (links_ : (List (Str × Int × Int))) (word_ : Int) : Ev (eL eI) (f_along (k + 1) [(eL (eT3 eS eI eI)) links_, eI word_]) (t_along links_ word_) := by
  show Ev (eL eI) (fnM 7 [true, false] (b_along (k + 0)) [(eL (eT3 eS eI eI)) links_, eI word_]) _
  exact rf_fn
    (s_setOE (e := (eL eI)) (ev_ret (e := (eL eI)) (p_lstE (e := eI) (xs := [word_]) (p_cons (rfl : _ = M.ret (eI word_)) p_nil) (p_len (n := 1) (by decide)))) (fun found_v1 => (s_setP (rfl : _ = M.ret (eI (0 : Int))) (s_next (E := (fun (s : ((List Int) × Int)) => [some (.bor ((eL (eT3 eS eI eI)) links_)), some (.val (eI word_)), some (.own ((eL eI) s.1)), some (.val (eI s.2)), none, none, none])) (rf_whileM (E := (fun (s : ((List Int) × Int)) => [some (.bor ((eL (eT3 eS eI eI)) links_)), some (.val (eI word_)), some (.own ((eL eI) s.1)), some (.val (eI s.2)), none, none, none])) (fun s2 => (et_ret (p_binT (rfl : _ = M.ret (eI s2.2)) (p_call (p_cons (rfl : _ = M.ret ((eL eI) s2.1)) p_nil) (o_lenL _)) rfl))) (fun s2 => (s_extE (r_lc rfl (i_L (rfl : _ = M.ret ((eL (eT3 eS eI eI)) links_))) (fun _ => rfl) (fun x3 => (r_andP (p_binT (rfl : _ = M.ret (eS x3.1)) (rfl : _ = M.ret (eS tx_next)) (o_eqE cS (by decide) _ _)) (r_and (t_E (b_PE (rfl : _ = M.ret (eI x3.2.1)) (b_PP (rfl : _ = M.ret ((eL eI) s2.1)) (rfl : _ = M.ret (eI s2.2)) (r_ix _ _)) (fun v5 => (ev_ret (e := eB) (o_eqE cI (by decide) _ _))))) (et_ret (p_binT (rfl : _ = M.ret (eI x3.2.2)) (rfl : _ = M.ret ((eL eI) s2.1)) (o_mnotInL cI (by decide) _ _)))))) (fun x3 => (ev_ret (e := eI) (rfl : _ = M.ret (eI x3.2.2))))) rfl (fun found_v6 => (s_setE (e := eI) (ev_ret (e := eI) (p_bin (rfl : _ = M.ret (eI s2.2)) (rfl : _ = M.ret (eI (1 : Int))) rfl)) (fun at_v7 => (e_goX rfl)))))) 100 (found_v1, (0 : Int))) (fun s9 => (s_frz rfl (s_retP (r := s9.1) (x := s9.1) (fun _ => Or.inl rfl) (rfl : _ = M.ret ((eL eI) s9.1)))))))))
end K84

set_option Elab.async false
set_option linter.all false
set_option maxRecDepth 100000
set_option maxHeartbeats 0
namespace K84
open PySem PySem.Spec L2 DL
def t_ordered_fault (count_ : Int) (links_ : (List (Str × Int × Int))) (told_ : D) : M D := (((dIx told_ (eI (0 : Int))) >>= fun v1 => (asBM (dEq v1 (eS s_order)))) >>= fun kb => if kb then ((dIx told_ (eI (1 : Int))) >>= asLI) >>= fun words_v3 => ((((sortM ltI words_v3)) >>= fun v4 => (rgM 0 count_) >>= fun v5 => .ret (!decide (v4 = v5))) >>= fun kb => if kb then .ret ((eT1 eS) s_words) else ((loopR (fun x6 s7 => (indexM words_v3 x6.2.2.1) >>= fun low_v8 => (indexM words_v3 x6.2.2.2) >>= fun high_v9 => (if ((decide (high_v9 ≤ low_v8)) || ((decide (x6.2.1 = tx_next)) && (!decide (high_v9 = (low_v8 + (1 : Int)))))) then .ret (.back ((eT2 eS eI) (s_link, x6.1))) else .ret (.go ()))) (enumT 0 links_) ()) : M (Fw Unit D)) >>= contR (fun s11 => .ret (eN ())) (fun r => r)) else (((dIx told_ (eI (0 : Int))) >>= fun v12 => (asBM (dEq v12 (eS s_two)))) >>= fun kb => if kb then (((((((dSl told_ (some (1 : Int)) none) >>= itemsM) >>= fun v23 => (lcM (fun x15 => (M.ret true)) (fun x15 => (((asI x15) >>= fun v16 => .ret ((decide ((0 : Int) ≤ v16)) && (decide (v16 < ((links_.length : Nat) : Int))))) >>= fun kb => if kb then ((((asI x15) >>= fun v18 => (ixM links_ v18)) >>= fun v19 => .ret v19.1) >>= fun v21 => .ret (decide (v21 = tx_next))) else .ret false))) v23) >>= fun v24 => .ret (v24.all id)) >>= fun v25 => .ret v25) >>= fun kb => .ret (!kb)) >>= fun kb => if kb then .ret ((eT1 eS) s_links) else (((dIx told_ (eI (1 : Int))) >>= asI) >>= fun v27 => (ixM links_ v27)) >>= fun first_v30 => (((dIx told_ (eI (2 : Int))) >>= asI) >>= fun v29 => (ixM links_ v29)) >>= fun second_v31 => .ret (if (!((decide (first_v30.2.1 = second_v31.2.1)) == (decide (first_v30.2.2 = second_v31.2.2)))) then (eN ()) else ((eT1 eS) s_links))) else ((dIx told_ (eI (1 : Int))) >>= asLI) >>= fun row_v32 => (((dIx told_ (eI (0 : Int))) >>= fun v33 => (asBM (dEq v33 (eS s_round)))) >>= fun kb => if kb then (M.ret tx_next) else (M.ret s_ahead)) >>= fun kind_v35 => ((if (!(!row_v32.isEmpty)) then .ret true else (((((lcM (fun x36 => (M.ret true)) (fun x36 => (if ((decide ((0 : Int) ≤ x36)) && (decide (x36 < ((links_.length : Nat) : Int)))) then (((ixM links_ x36) >>= fun v37 => .ret v37.1) >>= fun v39 => .ret (decide (v39 = kind_v35))) else .ret false))) row_v32) >>= fun v41 => .ret (v41.all id)) >>= fun v42 => .ret v42) >>= fun kb => .ret (!kb))) >>= fun kb => if kb then .ret ((eT1 eS) s_links) else ((((dIx told_ (eI (0 : Int))) >>= fun v43 => (asBM (dEq v43 (eS s_ring)))) >>= fun kb => if kb then (M.ret (decide (((row_v32.length : Nat) : Int) = (1 : Int)))) else .ret false) >>= fun kb => if kb then (((((ixM row_v32 (0 : Int)) >>= fun v55 => (ixM links_ v55)) >>= fun v56 => .ret v56.2.1) >>= fun v58 => ((((ixM row_v32 (0 : Int)) >>= fun v46 => (ixM links_ v46)) >>= fun v47 => .ret v47.2.2) >>= fun v49 => (t_along links_ v49)) >>= fun v59 => .ret (memT v58 v59)) >>= fun kb => if kb then (M.ret (eN ())) else (M.ret ((eT2 eS eI) (s_step, (0 : Int))))) else ((loopR (fun x60 s61 => (((ixM row_v32 (x60.1 - (1 : Int))) >>= fun v63 => (ixM links_ v63)) >>= fun v64 => .ret v64.2.2) >>= fun before_v66 => ((((dIx told_ (eI (0 : Int))) >>= fun v67 => (asBM (dEq v67 (eS s_round)))) >>= fun kb => if kb then (((ixM links_ x60.2) >>= fun v69 => .ret v69.2.1) >>= fun v72 => .ret (!decide (before_v66 = v72))) else .ret false) >>= fun kb => if kb then .ret (.back ((eT2 eS eI) (s_step, x60.1))) else ((((dIx told_ (eI (0 : Int))) >>= fun v73 => (asBM (dEq v73 (eS s_ring)))) >>= fun kb => if kb then (((ixM links_ x60.2) >>= fun v80 => .ret v80.2.2) >>= fun v82 => (((ixM links_ x60.2) >>= fun v75 => .ret v75.2.1) >>= fun v77 => (t_together links_ v77)) >>= fun v83 => .ret (memT v82 v83)) else .ret false) >>= fun kb => if kb then .ret (.back ((eT2 eS eI) (s_step, x60.1))) else ((((dIx told_ (eI (0 : Int))) >>= fun v84 => (asBM (dEq v84 (eS s_ring)))) >>= fun kb => if kb then (((ixM links_ x60.2) >>= fun v88 => .ret v88.2.1) >>= fun v90 => ((t_together links_ before_v66)) >>= fun v91 => .ret (!memT v90 v91)) else .ret false) >>= fun kb => if kb then .ret (.back ((eT2 eS eI) (s_step, x60.1))) else .ret (.go ()))))) (enumT 0 row_v32) ()) : M (Fw Unit D)) >>= contR (fun s93 => .ret (eN ())) (fun r => r)))))
theorem rf_ordered_fault (k : Nat) (count_ : Int) (links_ : (List (Str × Int × Int))) (told_ : D) : Ev eD (f_ordered_fault (k + 2) [eI count_, (eL (eT3 eS eI eI)) links_, eD told_]) (t_ordered_fault count_ links_ told_) := by
  show Ev eD (fnM 15 [true, false, true] (b_ordered_fault (k + 1)) [eI count_, (eL (eT3 eS eI eI)) links_, eD told_]) _
  exact rf_fn
    (s_env (env' := [some (.bor (eI count_)), some (.val ((eL (eT3 eS eI eI)) links_)), some (.bor (eD told_)), none, none, none, none, none, none, none, none, none, none, none, none]) rfl (s_iff (t_E (b_EP (b_PP (rfl : _ = M.ret (eD told_)) (rfl : _ = M.ret (eI (0 : Int))) (ev_id _)) (rfl : _ = M.ret (eS s_order)) (fun v1 => (ev_asB _)))) (s_env (env' := [some (.bor (eI count_)), some (.val ((eL (eT3 eS eI eI)) links_)), some (.bor (eD told_)), none, none, none, none, none, none, none, none, none, none, none, none]) rfl (s_setE (e := (eL eI)) (q_E q_LI (b_PP (rfl : _ = M.ret (eD told_)) (rfl : _ = M.ret (eI (1 : Int))) (ev_id _))) (fun words_v3 => (s_env (env' := [some (.bor (eI count_)), some (.val ((eL (eT3 eS eI eI)) links_)), some (.bor (eD told_)), none, none, some (.val ((eL eI) words_v3)), none, none, none, none, none, none, none, none, none]) rfl (s_iff (t_E (b_EE (c_call (a_consP (d := (eL eI) words_v3) (rfl : _ = M.ret ((eL eI) words_v3)) (a_nil (r_sorted qI _)))) (r_lrg1 (rfl : _ = M.ret (eI count_))) (fun v4 v5 => (ev_ret (e := eB) (o_neE (cL cI) (by decide) _ _))))) (s_env (env' := [some (.bor (eI count_)), some (.val ((eL (eT3 eS eI eI)) links_)), some (.bor (eD told_)), none, none, some (.val ((eL eI) words_v3)), none, none, none, none, none, none, none, none, none]) rfl (s_retP (r := ((eT1 eS) s_words)) (x := ((eT1 eS) s_words)) (fun _ => ⟨(fun z => nomatch z), ⟨(fun z => nomatch z), Or.inl rfl⟩⟩) (p_tup (ds := [eS s_words]) (p_cons (rfl : _ = M.ret (eS s_words)) p_nil) (p_len (n := 1) (by decide))))) (s_skip (s_forget (s_env (env' := [some (.bor (eI count_)), some (.val ((eL (eT3 eS eI eI)) links_)), some (.bor (eD told_)), none, none, some (.val ((eL eI) words_v3)), none, none, none, none, none, none, none, none, none]) rfl (s_nextR (E := (fun (s : Unit) => [some (.bor (eI count_)), some (.val ((eL (eT3 eS eI eI)) links_)), some (.bor (eD told_)), none, none, some (.val ((eL eI) words_v3)), none, none, none, none, none, none, none, none, none])) (eρ := eD) (f := fun r => r) (fun _ _ => ⟨(fun z => nomatch z), Or.inl rfl⟩) (l_for (e := (eT2 eI (eT3 eS eI eI))) (i_enum (rfl : _ = M.ret ((eL (eT3 eS eI eI)) links_))) (rf_loopR (e := (eT2 eI (eT3 eS eI eI))) (E := (fun (s : Unit) => [some (.bor (eI count_)), some (.val ((eL (eT3 eS eI eI)) links_)), some (.bor (eD told_)), none, none, some (.val ((eL eI) words_v3)), none, none, none, none, none, none, none, none, none])) (eρ := eD) (fun _ _ => rfl) (fun x6 s7 => (s_env (env' := [some (.bor (eI count_)), some (.val ((eL (eT3 eS eI eI)) links_)), some (.bor (eD told_)), none, some (.val (eS x6.2.1)), some (.val ((eL eI) words_v3)), none, some (.val (eI x6.1)), none, none, none, some (.val (eI x6.2.2.1)), some (.val (eI x6.2.2.2)), none, none]) rfl (s_parK (a_cons (e := eI) (r_index cI (by decide) (rfl : _ = M.ret ((eL eI) words_v3)) (rfl : _ = M.ret (eI x6.2.2.1))) (fun low_v8 => (a_cons (e := eI) (r_index cI (by decide) (rfl : _ = M.ret ((eL eI) words_v3)) (rfl : _ = M.ret (eI x6.2.2.2))) (fun high_v9 => (a_nil (k_par (s_env (env' := [some (.bor (eI count_)), some (.val ((eL (eT3 eS eI eI)) links_)), some (.bor (eD told_)), none, some (.val (eS x6.2.1)), some (.val ((eL eI) words_v3)), none, some (.val (eI x6.1)), none, none, none, some (.val (eI x6.2.2.1)), some (.val (eI x6.2.2.2)), some (.val (eI low_v8)), some (.val (eI high_v9))]) rfl (s_iffP (p_or (p_binT (rfl : _ = M.ret (eI low_v8)) (rfl : _ = M.ret (eI high_v9)) rfl) (p_and (p_binT (rfl : _ = M.ret (eS x6.2.1)) (rfl : _ = M.ret (eS tx_next)) (o_eqE cS (by decide) _ _)) (p_binT (rfl : _ = M.ret (eI high_v9)) (p_bin (rfl : _ = M.ret (eI low_v8)) (rfl : _ = M.ret (eI (1 : Int))) rfl) (o_neE cI (by decide) _ _)))) (s_env (env' := [some (.bor (eI count_)), some (.val ((eL (eT3 eS eI eI)) links_)), some (.bor (eD told_)), none, some (.val (eS x6.2.1)), some (.val ((eL eI) words_v3)), none, some (.val (eI x6.1)), none, none, none, some (.val (eI x6.2.2.1)), some (.val (eI x6.2.2.2)), some (.val (eI low_v8)), some (.val (eI high_v9))]) rfl (s_retP (r := ((eT2 eS eI) (s_link, x6.1))) (x := Fw.back ((eT2 eS eI) (s_link, x6.1))) (fun _ => ⟨(fun z => nomatch z), rfl⟩) (p_tup (ds := [eS s_link, eI x6.1]) (p_cons (rfl : _ = M.ret (eS s_link)) (p_cons (rfl : _ = M.ret (eI x6.1)) p_nil)) (p_len (n := 2) (by decide))))) (s_skip (e_goT rfl))))))))))))) (enumT 0 links_) ())) (fun s11 => (s_env (env' := [some (.bor (eI count_)), some (.val ((eL (eT3 eS eI eI)) links_)), some (.bor (eD told_)), none, none, some (.val ((eL eI) words_v3)), none, none, none, none, none, none, none, none, none]) rfl (s_retP (r := (eN ())) (x := (eN ())) (fun _ => ⟨(fun z => nomatch z), Or.inl rfl⟩) (rfl : _ = M.ret (eN ())))))))))))))) (s_skipF (s_env (env' := [some (.bor (eI count_)), some (.val ((eL (eT3 eS eI eI)) links_)), some (.bor (eD told_)), none, none, none, none, none, none, none, none, none, none, none, none]) rfl (s_iff (t_E (b_EP (b_PP (rfl : _ = M.ret (eD told_)) (rfl : _ = M.ret (eI (0 : Int))) (ev_id _)) (rfl : _ = M.ret (eS s_two)) (fun v12 => (ev_asB _)))) (s_env (env' := [some (.bor (eI count_)), some (.val ((eL (eT3 eS eI eI)) links_)), some (.bor (eD told_)), none, none, none, none, none, none, none, none, none, none, none, none]) rfl (s_iff (r_not (r_truE (c_call (a_cons (r_lcE rfl (i_DE (r_slD (rfl : _ = M.ret (eD told_)) (po_s (rfl : _ = M.ret (eI (1 : Int)))) po_n)) (fun _ => rfl) (fun x15 => (et_ret rfl)) (fun x15 => (r_andV (r_chainE (e := eI) (p := fun v16 => (decide ((0 : Int) ≤ v16))) (q := fun v16 => (decide (v16 < ((links_.length : Nat) : Int)))) (rfl : _ = M.ret (eI (0 : Int))) (q_P q_I (rfl : _ = M.ret (eD x15))) (p_call (p_cons (rfl : _ = M.ret ((eL (eT3 eS eI eI)) links_)) p_nil) (o_lenL _)) (fun _ => rfl) (fun _ => rfl)) (b_EP (b_EP (b_PE (rfl : _ = M.ret ((eL (eT3 eS eI eI)) links_)) (q_P q_I (rfl : _ = M.ret (eD x15))) (fun v18 => (r_ix _ _))) (rfl : _ = M.ret (eI (0 : Int))) (fun v19 => (ev_ret (e := eS) rfl))) (rfl : _ = M.ret (eS tx_next)) (fun v21 => (ev_ret (e := eB) (o_eqE cS (by decide) _ _))))))) (fun v24 => (a_nil (ev_ret (e := eB) (o_all _)))))) (fun v25 => rfl))) (s_env (env' := [some (.bor (eI count_)), some (.val ((eL (eT3 eS eI eI)) links_)), some (.bor (eD told_)), none, none, none, none, none, none, none, none, none, none, none, none]) rfl (s_retP (r := ((eT1 eS) s_links)) (x := ((eT1 eS) s_links)) (fun _ => ⟨(fun z => nomatch z), ⟨(fun z => nomatch z), Or.inl rfl⟩⟩) (p_tup (ds := [eS s_links]) (p_cons (rfl : _ = M.ret (eS s_links)) p_nil) (p_len (n := 1) (by decide))))) (s_skip (s_env (env' := [some (.bor (eI count_)), some (.val ((eL (eT3 eS eI eI)) links_)), some (.bor (eD told_)), none, none, none, none, none, none, none, none, none, none, none, none]) rfl (s_parK (a_cons (e := (eT3 eS eI eI)) (b_PE (rfl : _ = M.ret ((eL (eT3 eS eI eI)) links_)) (q_E q_I (b_PP (rfl : _ = M.ret (eD told_)) (rfl : _ = M.ret (eI (1 : Int))) (ev_id _))) (fun v27 => (r_ix _ _))) (fun first_v30 => (a_cons (e := (eT3 eS eI eI)) (b_PE (rfl : _ = M.ret ((eL (eT3 eS eI eI)) links_)) (q_E q_I (b_PP (rfl : _ = M.ret (eD told_)) (rfl : _ = M.ret (eI (2 : Int))) (ev_id _))) (fun v29 => (r_ix _ _))) (fun second_v31 => (a_nil (k_par (s_env (env' := [some (.bor (eI count_)), some (.val ((eL (eT3 eS eI eI)) links_)), some (.bor (eD told_)), none, none, none, none, none, none, some (.val ((eT3 eS eI eI) first_v30)), some (.val ((eT3 eS eI eI) second_v31)), none, none, none, none]) rfl (s_retP (r := (if (!((decide (first_v30.2.1 = second_v31.2.1)) == (decide (first_v30.2.2 = second_v31.2.2)))) then (eN ()) else ((eT1 eS) s_links))) (x := (if (!((decide (first_v30.2.1 = second_v31.2.1)) == (decide (first_v30.2.2 = second_v31.2.2)))) then (eN ()) else ((eT1 eS) s_links))) (fun _ => ⟨(fun z => nomatch z), Or.inl rfl⟩) (p_ifE (e := eD) (p_binT (p_bin (p_bin (rfl : _ = M.ret ((eT3 eS eI eI) first_v30)) (rfl : _ = M.ret (eI (1 : Int))) rfl) (p_bin (rfl : _ = M.ret ((eT3 eS eI eI) second_v31)) (rfl : _ = M.ret (eI (1 : Int))) rfl) (o_eqE cI (by decide) _ _)) (p_bin (p_bin (rfl : _ = M.ret ((eT3 eS eI eI) first_v30)) (rfl : _ = M.ret (eI (2 : Int))) rfl) (p_bin (rfl : _ = M.ret ((eT3 eS eI eI) second_v31)) (rfl : _ = M.ret (eI (2 : Int))) rfl) (o_eqE cI (by decide) _ _)) rfl) (rfl : _ = M.ret (eN ())) (p_tup (ds := [eS s_links]) (p_cons (rfl : _ = M.ret (eS s_links)) p_nil) (p_len (n := 1) (by decide))))))))))))))))) (s_skipF (s_env (env' := [some (.bor (eI count_)), some (.val ((eL (eT3 eS eI eI)) links_)), some (.bor (eD told_)), none, none, none, none, none, none, none, none, none, none, none, none]) rfl (s_setE (e := (eL eI)) (q_E q_LI (b_PP (rfl : _ = M.ret (eD told_)) (rfl : _ = M.ret (eI (1 : Int))) (ev_id _))) (fun row_v32 => (s_env (env' := [some (.bor (eI count_)), some (.val ((eL (eT3 eS eI eI)) links_)), some (.bor (eD told_)), some (.val ((eL eI) row_v32)), none, none, none, none, none, none, none, none, none, none, none]) rfl (s_setE (e := eS) (r_ifE (t_E (b_EP (b_PP (rfl : _ = M.ret (eD told_)) (rfl : _ = M.ret (eI (0 : Int))) (ev_id _)) (rfl : _ = M.ret (eS s_round)) (fun v33 => (ev_asB _)))) (ev_ret (e := eS) (rfl : _ = M.ret (eS tx_next))) (ev_ret (e := eS) (rfl : _ = M.ret (eS s_ahead)))) (fun kind_v35 => (s_env (env' := [some (.bor (eI count_)), some (.val ((eL (eT3 eS eI eI)) links_)), some (.bor (eD told_)), some (.val ((eL eI) row_v32)), some (.val (eS kind_v35)), none, none, none, none, none, none, none, none, none, none]) rfl (s_iff (r_orP (p_not (p_tru (rfl : _ = M.ret ((eL eI) row_v32)) (t_L _))) (r_not (r_truE (c_call (a_cons (r_lc rfl (i_L (rfl : _ = M.ret ((eL eI) row_v32))) (fun _ => rfl) (fun x36 => (et_ret rfl)) (fun x36 => (r_andVP (p_chain (rfl : _ = M.ret (eI (0 : Int))) (rfl : _ = M.ret (eI x36)) (p_call (p_cons (rfl : _ = M.ret ((eL (eT3 eS eI eI)) links_)) p_nil) (o_lenL _)) rfl rfl) (b_EP (b_EP (b_PP (rfl : _ = M.ret ((eL (eT3 eS eI eI)) links_)) (rfl : _ = M.ret (eI x36)) (r_ix _ _)) (rfl : _ = M.ret (eI (0 : Int))) (fun v37 => (ev_ret (e := eS) rfl))) (rfl : _ = M.ret (eS kind_v35)) (fun v39 => (ev_ret (e := eB) (o_eqE cS (by decide) _ _))))))) (fun v41 => (a_nil (ev_ret (e := eB) (o_all _)))))) (fun v42 => rfl)))) (s_env (env' := [some (.bor (eI count_)), some (.val ((eL (eT3 eS eI eI)) links_)), some (.bor (eD told_)), some (.val ((eL eI) row_v32)), some (.val (eS kind_v35)), none, none, none, none, none, none, none, none, none, none]) rfl (s_retP (r := ((eT1 eS) s_links)) (x := ((eT1 eS) s_links)) (fun _ => ⟨(fun z => nomatch z), Or.inl rfl⟩) (p_tup (ds := [eS s_links]) (p_cons (rfl : _ = M.ret (eS s_links)) p_nil) (p_len (n := 1) (by decide))))) (s_skip (s_env (env' := [some (.bor (eI count_)), some (.val ((eL (eT3 eS eI eI)) links_)), some (.bor (eD told_)), some (.val ((eL eI) row_v32)), some (.val (eS kind_v35)), none, none, none, none, none, none, none, none, none, none]) rfl (s_iff (r_and (t_E (b_EP (b_PP (rfl : _ = M.ret (eD told_)) (rfl : _ = M.ret (eI (0 : Int))) (ev_id _)) (rfl : _ = M.ret (eS s_ring)) (fun v43 => (ev_asB _)))) (et_ret (p_binT (p_call (p_cons (rfl : _ = M.ret ((eL eI) row_v32)) p_nil) (o_lenL _)) (rfl : _ = M.ret (eI (1 : Int))) (o_eqE cI (by decide) _ _)))) (s_env (env' := [some (.bor (eI count_)), some (.val ((eL (eT3 eS eI eI)) links_)), some (.bor (eD told_)), some (.val ((eL eI) row_v32)), some (.val (eS kind_v35)), none, none, none, none, none, none, none, none, none, none]) rfl (s_retF (fun _ _ => ⟨(fun z => nomatch z), Or.inl rfl⟩) (r_ifE (t_E (b_EE (b_EP (b_PE (rfl : _ = M.ret ((eL (eT3 eS eI eI)) links_)) (b_PP (rfl : _ = M.ret ((eL eI) row_v32)) (rfl : _ = M.ret (eI (0 : Int))) (r_ix _ _)) (fun v55 => (r_ix _ _))) (rfl : _ = M.ret (eI (1 : Int))) (fun v56 => (ev_ret (e := eI) rfl))) (c_call (a_consP (d := (eL (eT3 eS eI eI)) links_) (rfl : _ = M.ret ((eL (eT3 eS eI eI)) links_)) (a_cons (b_EP (b_PE (rfl : _ = M.ret ((eL (eT3 eS eI eI)) links_)) (b_PP (rfl : _ = M.ret ((eL eI) row_v32)) (rfl : _ = M.ret (eI (0 : Int))) (r_ix _ _)) (fun v46 => (r_ix _ _))) (rfl : _ = M.ret (eI (2 : Int))) (fun v47 => (ev_ret (e := eI) rfl))) (fun v49 => (a_nil (rf_along _ _ _)))))) (fun v58 v59 => (ev_ret (e := eB) (o_minL cI (by decide) _ _))))) (ev_ret (e := eD) (rfl : _ = M.ret (eN ()))) (ev_ret (e := eD) (p_tup (ds := [eS s_step, eI (0 : Int)]) (p_cons (rfl : _ = M.ret (eS s_step)) (p_cons (rfl : _ = M.ret (eI (0 : Int))) p_nil)) (p_len (n := 2) (by decide))))))) (s_skip (s_forget (s_env (env' := [some (.bor (eI count_)), some (.val ((eL (eT3 eS eI eI)) links_)), some (.bor (eD told_)), some (.val ((eL eI) row_v32)), some (.val (eS kind_v35)), none, none, none, none, none, none, none, none, none, none]) rfl (s_nextR (E := (fun (s : Unit) => [some (.bor (eI count_)), some (.val ((eL (eT3 eS eI eI)) links_)), some (.bor (eD told_)), some (.val ((eL eI) row_v32)), some (.val (eS kind_v35)), none, none, none, none, none, none, none, none, none, none])) (eρ := eD) (f := fun r => r) (fun _ _ => Or.inl rfl) (l_for (e := (eT2 eI eI)) (i_enum (rfl : _ = M.ret ((eL eI) row_v32))) (rf_loopR (e := (eT2 eI eI)) (E := (fun (s : Unit) => [some (.bor (eI count_)), some (.val ((eL (eT3 eS eI eI)) links_)), some (.bor (eD told_)), some (.val ((eL eI) row_v32)), some (.val (eS kind_v35)), none, none, none, none, none, none, none, none, none, none])) (eρ := eD) (fun _ _ => rfl) (fun x60 s61 => (s_env (env' := [some (.bor (eI count_)), some (.val ((eL (eT3 eS eI eI)) links_)), some (.bor (eD told_)), some (.val ((eL eI) row_v32)), some (.val (eS kind_v35)), none, some (.val (eI x60.1)), some (.val (eI x60.2)), none, none, none, none, none, none, none]) rfl (s_setE (e := eI) (b_EP (b_PE (rfl : _ = M.ret ((eL (eT3 eS eI eI)) links_)) (b_PP (rfl : _ = M.ret ((eL eI) row_v32)) (p_bin (rfl : _ = M.ret (eI x60.1)) (rfl : _ = M.ret (eI (1 : Int))) rfl) (r_ix _ _)) (fun v63 => (r_ix _ _))) (rfl : _ = M.ret (eI (2 : Int))) (fun v64 => (ev_ret (e := eI) rfl))) (fun before_v66 => (s_env (env' := [some (.bor (eI count_)), some (.val ((eL (eT3 eS eI eI)) links_)), some (.bor (eD told_)), some (.val ((eL eI) row_v32)), some (.val (eS kind_v35)), none, some (.val (eI x60.1)), some (.val (eI x60.2)), some (.val (eI before_v66)), none, none, none, none, none, none]) rfl (s_iff (r_and (t_E (b_EP (b_PP (rfl : _ = M.ret (eD told_)) (rfl : _ = M.ret (eI (0 : Int))) (ev_id _)) (rfl : _ = M.ret (eS s_round)) (fun v67 => (ev_asB _)))) (t_E (b_PE (rfl : _ = M.ret (eI before_v66)) (b_EP (b_PP (rfl : _ = M.ret ((eL (eT3 eS eI eI)) links_)) (rfl : _ = M.ret (eI x60.2)) (r_ix _ _)) (rfl : _ = M.ret (eI (1 : Int))) (fun v69 => (ev_ret (e := eI) rfl))) (fun v72 => (ev_ret (e := eB) (o_neE cI (by decide) _ _)))))) (s_env (env' := [some (.bor (eI count_)), some (.val ((eL (eT3 eS eI eI)) links_)), some (.bor (eD told_)), some (.val ((eL eI) row_v32)), some (.val (eS kind_v35)), none, some (.val (eI x60.1)), some (.val (eI x60.2)), some (.val (eI before_v66)), none, none, none, none, none, none]) rfl (s_retP (r := ((eT2 eS eI) (s_step, x60.1))) (x := Fw.back ((eT2 eS eI) (s_step, x60.1))) (fun _ => ⟨(fun z => nomatch z), rfl⟩) (p_tup (ds := [eS s_step, eI x60.1]) (p_cons (rfl : _ = M.ret (eS s_step)) (p_cons (rfl : _ = M.ret (eI x60.1)) p_nil)) (p_len (n := 2) (by decide))))) (s_skip (s_env (env' := [some (.bor (eI count_)), some (.val ((eL (eT3 eS eI eI)) links_)), some (.bor (eD told_)), some (.val ((eL eI) row_v32)), some (.val (eS kind_v35)), none, some (.val (eI x60.1)), some (.val (eI x60.2)), some (.val (eI before_v66)), none, none, none, none, none, none]) rfl (s_iff (r_and (t_E (b_EP (b_PP (rfl : _ = M.ret (eD told_)) (rfl : _ = M.ret (eI (0 : Int))) (ev_id _)) (rfl : _ = M.ret (eS s_ring)) (fun v73 => (ev_asB _)))) (t_E (b_EE (b_EP (b_PP (rfl : _ = M.ret ((eL (eT3 eS eI eI)) links_)) (rfl : _ = M.ret (eI x60.2)) (r_ix _ _)) (rfl : _ = M.ret (eI (2 : Int))) (fun v80 => (ev_ret (e := eI) rfl))) (c_call (a_consP (d := (eL (eT3 eS eI eI)) links_) (rfl : _ = M.ret ((eL (eT3 eS eI eI)) links_)) (a_cons (b_EP (b_PP (rfl : _ = M.ret ((eL (eT3 eS eI eI)) links_)) (rfl : _ = M.ret (eI x60.2)) (r_ix _ _)) (rfl : _ = M.ret (eI (1 : Int))) (fun v75 => (ev_ret (e := eI) rfl))) (fun v77 => (a_nil (rf_together _ _ _)))))) (fun v82 v83 => (ev_ret (e := eB) (o_minL cI (by decide) _ _)))))) (s_env (env' := [some (.bor (eI count_)), some (.val ((eL (eT3 eS eI eI)) links_)), some (.bor (eD told_)), some (.val ((eL eI) row_v32)), some (.val (eS kind_v35)), none, some (.val (eI x60.1)), some (.val (eI x60.2)), some (.val (eI before_v66)), none, none, none, none, none, none]) rfl (s_retP (r := ((eT2 eS eI) (s_step, x60.1))) (x := Fw.back ((eT2 eS eI) (s_step, x60.1))) (fun _ => ⟨(fun z => nomatch z), rfl⟩) (p_tup (ds := [eS s_step, eI x60.1]) (p_cons (rfl : _ = M.ret (eS s_step)) (p_cons (rfl : _ = M.ret (eI x60.1)) p_nil)) (p_len (n := 2) (by decide))))) (s_skip (s_env (env' := [some (.bor (eI count_)), some (.val ((eL (eT3 eS eI eI)) links_)), some (.bor (eD told_)), some (.val ((eL eI) row_v32)), some (.val (eS kind_v35)), none, some (.val (eI x60.1)), some (.val (eI x60.2)), some (.val (eI before_v66)), none, none, none, none, none, none]) rfl (s_iff (r_and (t_E (b_EP (b_PP (rfl : _ = M.ret (eD told_)) (rfl : _ = M.ret (eI (0 : Int))) (ev_id _)) (rfl : _ = M.ret (eS s_ring)) (fun v84 => (ev_asB _)))) (t_E (b_EE (b_EP (b_PP (rfl : _ = M.ret ((eL (eT3 eS eI eI)) links_)) (rfl : _ = M.ret (eI x60.2)) (r_ix _ _)) (rfl : _ = M.ret (eI (1 : Int))) (fun v88 => (ev_ret (e := eI) rfl))) (c_call (a_consP (d := (eL (eT3 eS eI eI)) links_) (rfl : _ = M.ret ((eL (eT3 eS eI eI)) links_)) (a_consP (d := eI before_v66) (rfl : _ = M.ret (eI before_v66)) (a_nil (rf_together _ _ _))))) (fun v90 v91 => (ev_ret (e := eB) (o_mnotInL cI (by decide) _ _)))))) (s_env (env' := [some (.bor (eI count_)), some (.val ((eL (eT3 eS eI eI)) links_)), some (.bor (eD told_)), some (.val ((eL eI) row_v32)), some (.val (eS kind_v35)), none, some (.val (eI x60.1)), some (.val (eI x60.2)), some (.val (eI before_v66)), none, none, none, none, none, none]) rfl (s_retP (r := ((eT2 eS eI) (s_step, x60.1))) (x := Fw.back ((eT2 eS eI) (s_step, x60.1))) (fun _ => ⟨(fun z => nomatch z), rfl⟩) (p_tup (ds := [eS s_step, eI x60.1]) (p_cons (rfl : _ = M.ret (eS s_step)) (p_cons (rfl : _ = M.ret (eI x60.1)) p_nil)) (p_len (n := 2) (by decide))))) (s_skip (e_goT rfl)))))))))))))) (enumT 0 row_v32) ())) (fun s93 => (s_env (env' := [some (.bor (eI count_)), some (.val ((eL (eT3 eS eI eI)) links_)), some (.bor (eD told_)), some (.val ((eL eI) row_v32)), some (.val (eS kind_v35)), none, none, none, none, none, none, none, none, none, none]) rfl (s_retP (r := (eN ())) (x := (eN ())) (fun _ => Or.inl rfl) (rfl : _ = M.ret (eN ()))))))))))))))))))))))))))
end K84

set_option Elab.async false
set_option linter.all false
set_option maxRecDepth 100000
set_option maxHeartbeats 0
namespace K84
open PySem PySem.Spec L2 DL
def t_count_orders (count_ : Int) (links_ : (List (Str × Int × Int))) : M Int := (((((t_ordered count_ links_)) >>= fun v1 => (dIx v1 (eI (0 : Int)))) >>= fun v3 => (asBM (dNe v3 (eS s_order)))) >>= fun kb => if kb then .ret (0 : Int) else ((t_blocks_of count_ links_)) >>= fun blocks_v5 => ((t_ties_of blocks_v5 links_)) >>= fun ties_v6 => (M.ret [(([] : (List Int)), (1 : Int))]) >>= fun rows_v7 => ((loopM (fun x8 s9 => (M.ret ([] : (List ((List Int) × Int)))) >>= fun more_v10 => ((loopM (fun x11 s12 => (((rgM 0 ((blocks_v5.length : Nat) : Int)) >>= fun v21 => loopM (fun x13 s14 => ((if ((!memT x13 x11.1) && (((ties_v6.filter (fun x15 => (decide (x15.2.1 = x13)))).map (fun x15 => (memT x15.1 x11.1))).all id)) then (((catM x11.1 [x13]) >>= fun v16 => (sortM ltI v16)) >>= fun v17 => .ret v17) >>= fun key_v18 => putM s14 key_v18 ((getDT s14 key_v18 (0 : Int)) + x11.2) >>= fun more_v19 => .ret more_v19 else .ret s14) : M (List ((List Int) × Int))) >>= fun s20 => .ret s20) v21 s12) : M (List ((List Int) × Int))) >>= fun s22 => .ret s22) s9 more_v10) : M (List ((List Int) × Int))) >>= fun s24 => .ret s24) blocks_v5 rows_v7) : M (List ((List Int) × Int))) >>= fun s26 => (((lcM (fun x27 => (M.ret true)) (fun x27 => (getM s26 x27))) (keysT s26)) >>= fun v28 => .ret v28.sum))
theorem rf_count_orders (k : Nat) (count_ : Int) (links_ : (List (Str × Int × Int))) : Ev eI (f_count_orders (k + 4) [eI count_, (eL (eT3 eS eI eI)) links_]) (t_count_orders count_ links_) := by
  show Ev eI (fnM 14 [true, false] (b_count_orders (k + 3)) [eI count_, (eL (eT3 eS eI eI)) links_]) _
  exact rf_fn
    (s_env (env' := [some (.bor (eI count_)), some (.val ((eL (eT3 eS eI eI)) links_)), none, none, none, none, none, none, none, none, none, none, none, none]) rfl (s_iff (t_E (b_EP (b_EP (c_call (a_consP (d := eI count_) (rfl : _ = M.ret (eI count_)) (a_consP (d := (eL (eT3 eS eI eI)) links_) (rfl : _ = M.ret ((eL (eT3 eS eI eI)) links_)) (a_nil (rf_ordered _ _ _))))) (rfl : _ = M.ret (eI (0 : Int))) (fun v1 => (ev_id _))) (rfl : _ = M.ret (eS s_order)) (fun v3 => (ev_asB _)))) (s_env (env' := [some (.bor (eI count_)), some (.val ((eL (eT3 eS eI eI)) links_)), none, none, none, none, none, none, none, none, none, none, none, none]) rfl (s_retP (r := (0 : Int)) (x := (0 : Int)) (fun _ => ⟨(fun z => nomatch z), Or.inl rfl⟩) (rfl : _ = M.ret (eI (0 : Int))))) (s_skip (s_env (env' := [some (.bor (eI count_)), some (.val ((eL (eT3 eS eI eI)) links_)), none, none, none, none, none, none, none, none, none, none, none, none]) rfl (s_setE (e := (eL (eL eI))) (c_call (a_consP (d := eI count_) (rfl : _ = M.ret (eI count_)) (a_consP (d := (eL (eT3 eS eI eI)) links_) (rfl : _ = M.ret ((eL (eT3 eS eI eI)) links_)) (a_nil (rf_blocks_of _ _ _))))) (fun blocks_v5 => (s_env (env' := [some (.bor (eI count_)), some (.val ((eL (eT3 eS eI eI)) links_)), some (.val ((eL (eL eI)) blocks_v5)), none, none, none, none, none, none, none, none, none, none, none]) rfl (s_setE (e := (eL (eT3 eI eI eI))) (c_call (a_consP (d := (eL (eL eI)) blocks_v5) (rfl : _ = M.ret ((eL (eL eI)) blocks_v5)) (a_consP (d := (eL (eT3 eS eI eI)) links_) (rfl : _ = M.ret ((eL (eT3 eS eI eI)) links_)) (a_nil (rf_ties_of _ _ _))))) (fun ties_v6 => (s_env (env' := [some (.bor (eI count_)), some (.val ((eL (eT3 eS eI eI)) links_)), some (.val ((eL (eL eI)) blocks_v5)), some (.val ((eL (eT3 eI eI eI)) ties_v6)), none, none, none, none, none, none, none, none, none, none]) rfl (s_setE (e := (eM (eV eI) eI)) (ev_ret (e := (eM (eV eI) eI)) (p_dispN (f := eI) (k := ([] : (List Int))) (v := (1 : Int)) (knV cI nkI) (p_tupE (e := eI) (xs := ([] : List Int)) p_nil (p_len (n := 0) (by decide))) (rfl : _ = M.ret (eI (1 : Int))))) (fun rows_v7 => (s_forget (s_env (env' := [some (.bor (eI count_)), some (.val ((eL (eT3 eS eI eI)) links_)), some (.val ((eL (eL eI)) blocks_v5)), some (.val ((eL (eT3 eI eI eI)) ties_v6)), some (.val ((eM (eV eI) eI) rows_v7)), none, none, none, none, none, none, none, none, none]) rfl (s_next (E := (fun (s : (List ((List Int) × Int))) => [some (.bor (eI count_)), some (.val ((eL (eT3 eS eI eI)) links_)), some (.val ((eL (eL eI)) blocks_v5)), some (.val ((eL (eT3 eI eI eI)) ties_v6)), some (.val ((eM (eV eI) eI) s)), none, none, none, none, none, none, none, none, none])) (l_for (e := (eL eI)) (i_L (rfl : _ = M.ret ((eL (eL eI)) blocks_v5))) (rf_loopM (e := (eL eI)) (E := (fun (s : (List ((List Int) × Int))) => [some (.bor (eI count_)), some (.val ((eL (eT3 eS eI eI)) links_)), some (.val ((eL (eL eI)) blocks_v5)), some (.val ((eL (eT3 eI eI eI)) ties_v6)), some (.val ((eM (eV eI) eI) s)), none, none, none, none, none, none, none, none, none])) (fun _ _ => rfl) (fun x8 s9 => (s_env (env' := [some (.bor (eI count_)), some (.val ((eL (eT3 eS eI eI)) links_)), some (.val ((eL (eL eI)) blocks_v5)), some (.val ((eL (eT3 eI eI eI)) ties_v6)), some (.val ((eM (eV eI) eI) s9)), some (.val ((eL eI) x8)), none, none, none, none, none, none, none, none]) rfl (s_setOE (e := (eM (eV eI) eI)) (ev_ret (e := (eM (eV eI) eI)) (p_newN (e := (eV eI)) (f := eI))) (fun more_v10 => (s_forget (s_env (env' := [some (.bor (eI count_)), some (.val ((eL (eT3 eS eI eI)) links_)), some (.val ((eL (eL eI)) blocks_v5)), some (.val ((eL (eT3 eI eI eI)) ties_v6)), some (.val ((eM (eV eI) eI) s9)), some (.val ((eL eI) x8)), some (.own ((eM (eV eI) eI) more_v10)), none, none, none, none, none, none, none]) rfl (s_next (E := (fun (s : (List ((List Int) × Int))) => [some (.bor (eI count_)), some (.val ((eL (eT3 eS eI eI)) links_)), some (.val ((eL (eL eI)) blocks_v5)), some (.val ((eL (eT3 eI eI eI)) ties_v6)), some (.val ((eM (eV eI) eI) s9)), some (.val ((eL eI) x8)), some (.own ((eM (eV eI) eI) s)), none, none, none, none, none, none, none])) (l_for (e := (eT2 (eV eI) eI)) (i_itemsN (rfl : _ = M.ret ((eM (eV eI) eI) s9))) (rf_loopM (e := (eT2 (eV eI) eI)) (E := (fun (s : (List ((List Int) × Int))) => [some (.bor (eI count_)), some (.val ((eL (eT3 eS eI eI)) links_)), some (.val ((eL (eL eI)) blocks_v5)), some (.val ((eL (eT3 eI eI eI)) ties_v6)), some (.val ((eM (eV eI) eI) s9)), some (.val ((eL eI) x8)), some (.own ((eM (eV eI) eI) s)), none, none, none, none, none, none, none])) (fun _ _ => rfl) (fun x11 s12 => (s_forget (s_env (env' := [some (.bor (eI count_)), some (.val ((eL (eT3 eS eI eI)) links_)), some (.val ((eL (eL eI)) blocks_v5)), some (.val ((eL (eT3 eI eI eI)) ties_v6)), some (.val ((eM (eV eI) eI) s9)), some (.val ((eL eI) x8)), some (.own ((eM (eV eI) eI) s12)), some (.val ((eV eI) x11.1)), some (.val (eI x11.2)), none, none, none, none, none]) rfl (s_next (E := (fun (s : (List ((List Int) × Int))) => [some (.bor (eI count_)), some (.val ((eL (eT3 eS eI eI)) links_)), some (.val ((eL (eL eI)) blocks_v5)), some (.val ((eL (eT3 eI eI eI)) ties_v6)), some (.val ((eM (eV eI) eI) s9)), some (.val ((eL eI) x8)), some (.own ((eM (eV eI) eI) s)), some (.val ((eV eI) x11.1)), some (.val (eI x11.2)), none, none, none, none, none])) (l_forE (e := eI) (i_rg1 (p_call (p_cons (rfl : _ = M.ret ((eL (eL eI)) blocks_v5)) p_nil) (o_lenL _))) (fun v21 => (rf_loopM (e := eI) (E := (fun (s : (List ((List Int) × Int))) => [some (.bor (eI count_)), some (.val ((eL (eT3 eS eI eI)) links_)), some (.val ((eL (eL eI)) blocks_v5)), some (.val ((eL (eT3 eI eI eI)) ties_v6)), some (.val ((eM (eV eI) eI) s9)), some (.val ((eL eI) x8)), some (.own ((eM (eV eI) eI) s)), some (.val ((eV eI) x11.1)), some (.val (eI x11.2)), none, none, none, none, none])) (fun _ _ => rfl) (fun x13 s14 => (s_env (env' := [some (.bor (eI count_)), some (.val ((eL (eT3 eS eI eI)) links_)), some (.val ((eL (eL eI)) blocks_v5)), some (.val ((eL (eT3 eI eI eI)) ties_v6)), some (.val ((eM (eV eI) eI) s9)), some (.val ((eL eI) x8)), some (.own ((eM (eV eI) eI) s14)), some (.val ((eV eI) x11.1)), some (.val (eI x11.2)), some (.val (eI x13)), none, none, none, none]) rfl (s_next (E := (fun (s : (List ((List Int) × Int))) => [some (.bor (eI count_)), some (.val ((eL (eT3 eS eI eI)) links_)), some (.val ((eL (eL eI)) blocks_v5)), some (.val ((eL (eT3 eI eI eI)) ties_v6)), some (.val ((eM (eV eI) eI) s9)), some (.val ((eL eI) x8)), some (.own ((eM (eV eI) eI) s)), some (.val ((eV eI) x11.1)), some (.val (eI x11.2)), some (.val (eI x13)), none, none, none, none])) (s_ifP (p_and (p_binT (rfl : _ = M.ret (eI x13)) (rfl : _ = M.ret ((eV eI) x11.1)) (o_mnotInV cI (by decide) _ _)) (p_tru (p_call (p_cons (p_lc (e := (eT3 eI eI eI)) (f := eB) (xs := ties_v6) (c := fun x15 => (decide (x15.2.1 = x13))) (g := fun x15 => (memT x15.1 x11.1)) rfl (i_L (rfl : _ = M.ret ((eL (eT3 eI eI eI)) ties_v6))) (fun _ => rfl) (fun x15 => (p_binT (rfl : _ = M.ret (eI x15.2.1)) (rfl : _ = M.ret (eI x13)) (o_eqE cI (by decide) _ _))) (fun x15 => (p_bin (rfl : _ = M.ret (eI x15.1)) (rfl : _ = M.ret ((eV eI) x11.1)) (o_minV cI (by decide) _ _)))) p_nil) (o_all _)) rfl)) (s_env (env' := [some (.bor (eI count_)), some (.val ((eL (eT3 eS eI eI)) links_)), some (.val ((eL (eL eI)) blocks_v5)), some (.val ((eL (eT3 eI eI eI)) ties_v6)), some (.val ((eM (eV eI) eI) s9)), some (.val ((eL eI) x8)), some (.own ((eM (eV eI) eI) s14)), some (.val ((eV eI) x11.1)), some (.val (eI x11.2)), some (.val (eI x13)), none, none, none, none]) rfl (s_setE (e := (eV eI)) (c_call (a_cons (c_call (a_cons (b_PP (rfl : _ = M.ret ((eV eI) x11.1)) (p_tupE (e := eI) (xs := [x13]) (p_cons (rfl : _ = M.ret (eI x13)) p_nil) (p_len (n := 1) (by decide))) (r_catV _ _)) (fun v16 => (a_nil (r_sortedXV qI _))))) (fun v17 => (a_nil (ev_ret (e := (eV eI)) rfl))))) (fun key_v18 => (s_env (env' := [some (.bor (eI count_)), some (.val ((eL (eT3 eS eI eI)) links_)), some (.val ((eL (eL eI)) blocks_v5)), some (.val ((eL (eT3 eI eI eI)) ties_v6)), some (.val ((eM (eV eI) eI) s9)), some (.val ((eL eI) x8)), some (.own ((eM (eV eI) eI) s14)), some (.val ((eV eI) x11.1)), some (.val (eI x11.2)), some (.val (eI x13)), some (.val ((eV eI) key_v18)), none, none, none]) rfl (s_putNP (knV cI nkI) (xs := s14) (k := key_v18) (v := ((getDT s14 key_v18 (0 : Int)) + x11.2)) (p_bin (p_getN (knV cI nkI) (rfl : _ = M.ret ((eM (eV eI) eI) s14)) (rfl : _ = M.ret ((eV eI) key_v18)) (rfl : _ = M.ret (eI (0 : Int)))) (rfl : _ = M.ret (eI x11.2)) rfl) (rfl : _ = M.ret ((eV eI) key_v18)) rfl (fun more_v19 => (e_goN rfl))))))) (e_goN rfl)) (fun s20 => (e_goX rfl))))) v21 s12))) (fun s22 => (e_goX rfl)))))) s9 more_v10)) (fun s24 => (s_frzO (d := (eM (eV eI) eI) s24) rfl (s_env (env' := [some (.bor (eI count_)), some (.val ((eL (eT3 eS eI eI)) links_)), some (.val ((eL (eL eI)) blocks_v5)), some (.val ((eL (eT3 eI eI eI)) ties_v6)), some (.val ((eM (eV eI) eI) s9)), some (.val ((eL eI) x8)), some (.val ((eM (eV eI) eI) s24)), none, none, none, none, none, none, none]) rfl (s_setP (rfl : _ = M.ret ((eM (eV eI) eI) s24)) (e_goX rfl)))))))))))) blocks_v5 rows_v7)) (fun s26 => (s_env (env' := [some (.bor (eI count_)), some (.val ((eL (eT3 eS eI eI)) links_)), some (.val ((eL (eL eI)) blocks_v5)), some (.val ((eL (eT3 eI eI eI)) ties_v6)), some (.val ((eM (eV eI) eI) s26)), none, none, none, none, none, none, none, none, none]) rfl (s_retF (fun _ _ => Or.inl rfl) (c_call (a_cons (r_lc rfl (i_keysN (f := eI) (rfl : _ = M.ret ((eM (eV eI) eI) s26))) (fun _ => rfl) (fun x27 => (et_ret rfl)) (fun x27 => (b_PP (rfl : _ = M.ret ((eM (eV eI) eI) s26)) (rfl : _ = M.ret ((eV eI) x27)) (r_ixN (knV cI nkI) _ _)))) (fun v28 => (a_nil (ev_ret (e := eI) (o_sum _))))))))))))))))))))))))
end K84

set_option Elab.async false
set_option linter.all false
set_option maxRecDepth 100000
set_option maxHeartbeats 0
namespace K84
open PySem PySem.Spec L2 DL
def t_law_r15 (count_ : Int) (phrases_ : (List (Str × Str))) (hosts_ : (List (Option Int))) (orders_ : (List (List Int))) (order_ : (List Int)) (prefix_ : (List (Str × Str))) (rows_ : (List ((List (Str × Str)) × Int))) (told_ : D) (links_ : (List (Str × Int × Int))) (fewer_ : (List (Str × Int × Int))) (alike_ : Int) (below_ : Int) : M Bool := ((((dIx told_ (eI (1 : Int))) >>= itemsM) >>= fun v97 => (lcM (fun x94 => (M.ret true)) (fun x94 => ((asI x94) >>= fun v96 => (ixM phrases_ v96)))) v97) >>= fun v98 => (t_are_alike v98 prefix_))
theorem rf_law_r15 (k : Nat) (count_ : Int) (phrases_ : (List (Str × Str))) (hosts_ : (List (Option Int))) (orders_ : (List (List Int))) (order_ : (List Int)) (prefix_ : (List (Str × Str))) (rows_ : (List ((List (Str × Str)) × Int))) (told_ : D) (links_ : (List (Str × Int × Int))) (fewer_ : (List (Str × Int × Int))) (alike_ : Int) (below_ : Int) : Rf (RFn eB) (law_r15 (k + 4) [none, some (.val (eD D.stt)), some (.val (eI count_)), some (.val ((eL (eT2 eS eS)) phrases_)), some (.val ((eL (eO eI)) hosts_)), some (.val ((eL (eL eI)) orders_)), some (.val ((eL eI) order_)), some (.val ((eL (eT2 eS eS)) prefix_)), none, none, some (.val ((eL (eT2 (eL (eT2 eS eS)) eI)) rows_)), some (.val (eD told_)), some (.val ((eL (eT3 eS eI eI)) links_)), some (.val ((eL (eT3 eS eI eI)) fewer_)), none, some (.val (eI alike_)), some (.val (eI below_)), none, none, none]) (t_law_r15 count_ phrases_ hosts_ orders_ order_ prefix_ rows_ told_ links_ fewer_ alike_ below_) :=
  (s_env (env' := [none, some (.val (eD D.stt)), some (.val (eI count_)), some (.val ((eL (eT2 eS eS)) phrases_)), some (.val ((eL (eO eI)) hosts_)), some (.val ((eL (eL eI)) orders_)), some (.val ((eL eI) order_)), some (.val ((eL (eT2 eS eS)) prefix_)), none, none, some (.val ((eL (eT2 (eL (eT2 eS eS)) eI)) rows_)), some (.val (eD told_)), some (.val ((eL (eT3 eS eI eI)) links_)), some (.val ((eL (eT3 eS eI eI)) fewer_)), none, some (.val (eI alike_)), some (.val (eI below_)), none, none, none]) rfl (s_retF (fun _ _ => Or.inl rfl) (c_call (a_cons (r_lcE rfl (i_DE (b_PP (rfl : _ = M.ret (eD told_)) (rfl : _ = M.ret (eI (1 : Int))) (ev_id _))) (fun _ => rfl) (fun x94 => (et_ret rfl)) (fun x94 => (b_PE (rfl : _ = M.ret ((eL (eT2 eS eS)) phrases_)) (q_P q_I (rfl : _ = M.ret (eD x94))) (fun v96 => (r_ix _ _))))) (fun v98 => (a_consP (d := (eL (eT2 eS eS)) prefix_) (rfl : _ = M.ret ((eL (eT2 eS eS)) prefix_)) (a_nil (rf_are_alike _ _ _))))))))
end K84

set_option Elab.async false
set_option linter.all false
set_option maxRecDepth 100000
set_option maxHeartbeats 0
namespace K84
open PySem PySem.Spec L2 DL
def t_law_r14 (count_ : Int) (phrases_ : (List (Str × Str))) (hosts_ : (List (Option Int))) (orders_ : (List (List Int))) (order_ : (List Int)) (prefix_ : (List (Str × Str))) (rows_ : (List ((List (Str × Str)) × Int))) (told_ : D) (links_ : (List (Str × Int × Int))) (fewer_ : (List (Str × Int × Int))) (alike_ : Int) (below_ : Int) : M Bool := ((((dIx told_ (eI (0 : Int))) >>= fun v88 => (asBM (dNe v88 (eS s_order)))) >>= fun kb => if kb then .ret true else ((((t_ordered_fault count_ links_ told_)) >>= fun v90 => .ret (!isNonD v90)) >>= fun kb => if kb then .ret true else (((t_ordered_fault count_ links_ ((eT2 eS (eL eI)) (s_order, order_)))) >>= fun v92 => .ret (!isNonD v92)))) >>= fun kb => if kb then .ret false else (t_law_r15 (count_) (phrases_) (hosts_) (orders_) (order_) (prefix_) (rows_) (told_) (links_) (fewer_) (alike_) (below_)))
theorem rf_law_r14 (k : Nat) (count_ : Int) (phrases_ : (List (Str × Str))) (hosts_ : (List (Option Int))) (orders_ : (List (List Int))) (order_ : (List Int)) (prefix_ : (List (Str × Str))) (rows_ : (List ((List (Str × Str)) × Int))) (told_ : D) (links_ : (List (Str × Int × Int))) (fewer_ : (List (Str × Int × Int))) (alike_ : Int) (below_ : Int) : Rf (RFn eB) (law_r14 (k + 4) [none, some (.val (eD D.stt)), some (.val (eI count_)), some (.val ((eL (eT2 eS eS)) phrases_)), some (.val ((eL (eO eI)) hosts_)), some (.val ((eL (eL eI)) orders_)), some (.val ((eL eI) order_)), some (.val ((eL (eT2 eS eS)) prefix_)), none, none, some (.val ((eL (eT2 (eL (eT2 eS eS)) eI)) rows_)), some (.val (eD told_)), some (.val ((eL (eT3 eS eI eI)) links_)), some (.val ((eL (eT3 eS eI eI)) fewer_)), none, some (.val (eI alike_)), some (.val (eI below_)), none, none, none]) (t_law_r14 count_ phrases_ hosts_ orders_ order_ prefix_ rows_ told_ links_ fewer_ alike_ below_) :=
  (s_frz rfl (s_env (env' := [none, some (.val (eD D.stt)), some (.val (eI count_)), some (.val ((eL (eT2 eS eS)) phrases_)), some (.val ((eL (eO eI)) hosts_)), some (.val ((eL (eL eI)) orders_)), some (.val ((eL eI) order_)), some (.val ((eL (eT2 eS eS)) prefix_)), none, none, some (.val ((eL (eT2 (eL (eT2 eS eS)) eI)) rows_)), some (.val (eD told_)), some (.val ((eL (eT3 eS eI eI)) links_)), some (.val ((eL (eT3 eS eI eI)) fewer_)), none, some (.val (eI alike_)), some (.val (eI below_)), none, none, none]) rfl (s_iff (r_or (t_E (b_EP (b_PP (rfl : _ = M.ret (eD told_)) (rfl : _ = M.ret (eI (0 : Int))) (ev_id _)) (rfl : _ = M.ret (eS s_order)) (fun v88 => (ev_asB _)))) (r_or (t_E (b_EP (c_call (a_consP (d := eI count_) (rfl : _ = M.ret (eI count_)) (a_consP (d := (eL (eT3 eS eI eI)) links_) (rfl : _ = M.ret ((eL (eT3 eS eI eI)) links_)) (a_consP (d := eD told_) (rfl : _ = M.ret (eD told_)) (a_nil (rf_ordered_fault _ _ _ _)))))) (rfl : _ = M.ret (eN ())) (fun v90 => (ev_ret (e := eB) (o_isNotD _))))) (t_E (b_EP (c_call (a_consP (d := eI count_) (rfl : _ = M.ret (eI count_)) (a_consP (d := (eL (eT3 eS eI eI)) links_) (rfl : _ = M.ret ((eL (eT3 eS eI eI)) links_)) (a_consP (d := eD ((eT2 eS (eL eI)) (s_order, order_))) (p_tup (ds := [eS s_order, (eL eI) order_]) (p_cons (rfl : _ = M.ret (eS s_order)) (p_cons (rfl : _ = M.ret ((eL eI) order_)) p_nil)) (p_len (n := 2) (by decide))) (a_nil (rf_ordered_fault _ _ _ _)))))) (rfl : _ = M.ret (eN ())) (fun v92 => (ev_ret (e := eB) (o_isNotD _))))))) (s_env (env' := [none, some (.val (eD D.stt)), some (.val (eI count_)), some (.val ((eL (eT2 eS eS)) phrases_)), some (.val ((eL (eO eI)) hosts_)), some (.val ((eL (eL eI)) orders_)), some (.val ((eL eI) order_)), some (.val ((eL (eT2 eS eS)) prefix_)), none, none, some (.val ((eL (eT2 (eL (eT2 eS eS)) eI)) rows_)), some (.val (eD told_)), some (.val ((eL (eT3 eS eI eI)) links_)), some (.val ((eL (eT3 eS eI eI)) fewer_)), none, some (.val (eI alike_)), some (.val (eI below_)), none, none, none]) rfl (s_retP (r := false) (x := false) (fun _ => ⟨(fun z => nomatch z), Or.inl rfl⟩) (rfl : _ = M.ret (eB false)))) (s_skip (rf_law_r15 k _ _ _ _ _ _ _ _ _ _ _ _)))))
end K84

set_option Elab.async false
set_option linter.all false
set_option maxRecDepth 100000
set_option maxHeartbeats 0
namespace K84
open PySem PySem.Spec L2 DL
def t_law_r13 (count_ : Int) (phrases_ : (List (Str × Str))) (hosts_ : (List (Option Int))) (orders_ : (List (List Int))) (order_ : (List Int)) (prefix_ : (List (Str × Str))) (rows_ : (List ((List (Str × Str)) × Int))) (links_ : (List (Str × Int × Int))) (fewer_ : (List (Str × Int × Int))) (alike_ : Int) (below_ : Int) : M Bool := ((t_ordered count_ links_)) >>= fun told_v87 => (t_law_r14 (count_) (phrases_) (hosts_) (orders_) (order_) (prefix_) (rows_) (told_v87) (links_) (fewer_) (alike_) (below_))
theorem rf_law_r13 (k : Nat) (count_ : Int) (phrases_ : (List (Str × Str))) (hosts_ : (List (Option Int))) (orders_ : (List (List Int))) (order_ : (List Int)) (prefix_ : (List (Str × Str))) (rows_ : (List ((List (Str × Str)) × Int))) (links_ : (List (Str × Int × Int))) (fewer_ : (List (Str × Int × Int))) (alike_ : Int) (below_ : Int) : Rf (RFn eB) (law_r13 (k + 4) [none, some (.val (eD D.stt)), some (.val (eI count_)), some (.val ((eL (eT2 eS eS)) phrases_)), some (.val ((eL (eO eI)) hosts_)), some (.val ((eL (eL eI)) orders_)), some (.val ((eL eI) order_)), some (.val ((eL (eT2 eS eS)) prefix_)), none, none, some (.val ((eL (eT2 (eL (eT2 eS eS)) eI)) rows_)), none, some (.val ((eL (eT3 eS eI eI)) links_)), some (.val ((eL (eT3 eS eI eI)) fewer_)), none, some (.val (eI alike_)), some (.val (eI below_)), none, none, none]) (t_law_r13 count_ phrases_ hosts_ orders_ order_ prefix_ rows_ links_ fewer_ alike_ below_) :=
  (s_frz rfl (s_env (env' := [none, some (.val (eD D.stt)), some (.val (eI count_)), some (.val ((eL (eT2 eS eS)) phrases_)), some (.val ((eL (eO eI)) hosts_)), some (.val ((eL (eL eI)) orders_)), some (.val ((eL eI) order_)), some (.val ((eL (eT2 eS eS)) prefix_)), none, none, some (.val ((eL (eT2 (eL (eT2 eS eS)) eI)) rows_)), none, some (.val ((eL (eT3 eS eI eI)) links_)), some (.val ((eL (eT3 eS eI eI)) fewer_)), none, some (.val (eI alike_)), some (.val (eI below_)), none, none, none]) rfl (s_setE (e := eD) (c_call (a_consP (d := eI count_) (rfl : _ = M.ret (eI count_)) (a_consP (d := (eL (eT3 eS eI eI)) links_) (rfl : _ = M.ret ((eL (eT3 eS eI eI)) links_)) (a_nil (rf_ordered _ _ _))))) (fun told_v87 => (rf_law_r14 k _ _ _ _ _ _ _ _ _ _ _ _)))))
end K84

set_option Elab.async false
set_option linter.all false
set_option maxRecDepth 100000
set_option maxHeartbeats 0
namespace K84
open PySem PySem.Spec L2 DL
def t_law_r12 (count_ : Int) (phrases_ : (List (Str × Str))) (hosts_ : (List (Option Int))) (orders_ : (List (List Int))) (order_ : (List Int)) (prefix_ : (List (Str × Str))) (rows_ : (List ((List (Str × Str)) × Int))) (links_ : (List (Str × Int × Int))) (fewer_ : (List (Str × Int × Int))) (alike_ : Int) (below_ : Int) : M Bool := ((if (!decide ((rows_.map (fun x81 => x81.2)).sum = ((orders_.length : Nat) : Int))) then .ret true else (((lcM (fun x82 => (((t_plain_form prefix_)) >>= fun v84 => .ret (decide (x82.1 = v84)))) (fun x82 => (M.ret x82.2))) rows_) >>= fun v85 => .ret (!decide (v85 = [alike_])))) >>= fun kb => if kb then .ret false else (t_law_r13 (count_) (phrases_) (hosts_) (orders_) (order_) (prefix_) (rows_) (links_) (fewer_) (alike_) (below_)))
theorem rf_law_r12 (k : Nat) (count_ : Int) (phrases_ : (List (Str × Str))) (hosts_ : (List (Option Int))) (orders_ : (List (List Int))) (order_ : (List Int)) (prefix_ : (List (Str × Str))) (rows_ : (List ((List (Str × Str)) × Int))) (links_ : (List (Str × Int × Int))) (fewer_ : (List (Str × Int × Int))) (alike_ : Int) (below_ : Int) : Rf (RFn eB) (law_r12 (k + 4) [none, some (.val (eD D.stt)), some (.val (eI count_)), some (.val ((eL (eT2 eS eS)) phrases_)), some (.val ((eL (eO eI)) hosts_)), some (.val ((eL (eL eI)) orders_)), some (.val ((eL eI) order_)), some (.val ((eL (eT2 eS eS)) prefix_)), none, none, some (.val ((eL (eT2 (eL (eT2 eS eS)) eI)) rows_)), none, some (.val ((eL (eT3 eS eI eI)) links_)), some (.val ((eL (eT3 eS eI eI)) fewer_)), none, some (.val (eI alike_)), some (.val (eI below_)), none, none, none]) (t_law_r12 count_ phrases_ hosts_ orders_ order_ prefix_ rows_ links_ fewer_ alike_ below_) :=
  (s_env (env' := [none, some (.val (eD D.stt)), some (.val (eI count_)), some (.val ((eL (eT2 eS eS)) phrases_)), some (.val ((eL (eO eI)) hosts_)), some (.val ((eL (eL eI)) orders_)), some (.val ((eL eI) order_)), some (.val ((eL (eT2 eS eS)) prefix_)), none, none, some (.val ((eL (eT2 (eL (eT2 eS eS)) eI)) rows_)), none, some (.val ((eL (eT3 eS eI eI)) links_)), some (.val ((eL (eT3 eS eI eI)) fewer_)), none, some (.val (eI alike_)), some (.val (eI below_)), none, none, none]) rfl (s_iff (r_orP (p_binT (p_call (p_cons (p_lcA (e := (eT2 (eL (eT2 eS eS)) eI)) (f := eI) (xs := rows_) (g := fun x81 => x81.2) rfl (i_L (rfl : _ = M.ret ((eL (eT2 (eL (eT2 eS eS)) eI)) rows_))) (fun _ => rfl) (fun x81 => (rfl : _ = M.ret (eI x81.2)))) p_nil) (o_sum _)) (p_call (p_cons (rfl : _ = M.ret ((eL (eL eI)) orders_)) p_nil) (o_lenL _)) (o_neE cI (by decide) _ _)) (t_E (b_EP (r_lc rfl (i_L (rfl : _ = M.ret ((eL (eT2 (eL (eT2 eS eS)) eI)) rows_))) (fun _ => rfl) (fun x82 => (t_E (b_PE (rfl : _ = M.ret ((eL (eT2 eS eS)) x82.1)) (c_call (a_consP (d := (eL (eT2 eS eS)) prefix_) (rfl : _ = M.ret ((eL (eT2 eS eS)) prefix_)) (a_nil (rf_plain_form _ _)))) (fun v84 => (ev_ret (e := eB) (o_eqE (cL (cT2 cS cS)) (by decide) _ _)))))) (fun x82 => (ev_ret (e := eI) (rfl : _ = M.ret (eI x82.2))))) (p_lstE (e := eI) (xs := [alike_]) (p_cons (rfl : _ = M.ret (eI alike_)) p_nil) (p_len (n := 1) (by decide))) (fun v85 => (ev_ret (e := eB) (o_neE (cL cI) (by decide) _ _)))))) (s_env (env' := [none, some (.val (eD D.stt)), some (.val (eI count_)), some (.val ((eL (eT2 eS eS)) phrases_)), some (.val ((eL (eO eI)) hosts_)), some (.val ((eL (eL eI)) orders_)), some (.val ((eL eI) order_)), some (.val ((eL (eT2 eS eS)) prefix_)), none, none, some (.val ((eL (eT2 (eL (eT2 eS eS)) eI)) rows_)), none, some (.val ((eL (eT3 eS eI eI)) links_)), some (.val ((eL (eT3 eS eI eI)) fewer_)), none, some (.val (eI alike_)), some (.val (eI below_)), none, none, none]) rfl (s_retP (r := false) (x := false) (fun _ => ⟨(fun z => nomatch z), Or.inl rfl⟩) (rfl : _ = M.ret (eB false)))) (s_skip (rf_law_r13 k _ _ _ _ _ _ _ _ _ _ _))))
end K84

set_option Elab.async false
set_option linter.all false
set_option maxRecDepth 100000
set_option maxHeartbeats 0
namespace K84
open PySem PySem.Spec L2 DL
def t_law_r11 (count_ : Int) (phrases_ : (List (Str × Str))) (hosts_ : (List (Option Int))) (orders_ : (List (List Int))) (order_ : (List Int)) (prefix_ : (List (Str × Str))) (links_ : (List (Str × Int × Int))) (fewer_ : (List (Str × Int × Int))) (alike_ : Int) (below_ : Int) : M Bool := ((t_readings_of phrases_ hosts_)) >>= fun rows_v80 => (t_law_r12 (count_) (phrases_) (hosts_) (orders_) (order_) (prefix_) (rows_v80) (links_) (fewer_) (alike_) (below_))
theorem rf_law_r11 (k : Nat) (count_ : Int) (phrases_ : (List (Str × Str))) (hosts_ : (List (Option Int))) (orders_ : (List (List Int))) (order_ : (List Int)) (prefix_ : (List (Str × Str))) (links_ : (List (Str × Int × Int))) (fewer_ : (List (Str × Int × Int))) (alike_ : Int) (below_ : Int) : Rf (RFn eB) (law_r11 (k + 4) [none, some (.val (eD D.stt)), some (.val (eI count_)), some (.val ((eL (eT2 eS eS)) phrases_)), some (.val ((eL (eO eI)) hosts_)), some (.val ((eL (eL eI)) orders_)), some (.val ((eL eI) order_)), some (.val ((eL (eT2 eS eS)) prefix_)), none, none, none, none, some (.val ((eL (eT3 eS eI eI)) links_)), some (.val ((eL (eT3 eS eI eI)) fewer_)), none, some (.val (eI alike_)), some (.val (eI below_)), none, none, none]) (t_law_r11 count_ phrases_ hosts_ orders_ order_ prefix_ links_ fewer_ alike_ below_) :=
  (s_env (env' := [none, some (.val (eD D.stt)), some (.val (eI count_)), some (.val ((eL (eT2 eS eS)) phrases_)), some (.val ((eL (eO eI)) hosts_)), some (.val ((eL (eL eI)) orders_)), some (.val ((eL eI) order_)), some (.val ((eL (eT2 eS eS)) prefix_)), none, none, none, none, some (.val ((eL (eT3 eS eI eI)) links_)), some (.val ((eL (eT3 eS eI eI)) fewer_)), none, some (.val (eI alike_)), some (.val (eI below_)), none, none, none]) rfl (s_setE (e := (eL (eT2 (eL (eT2 eS eS)) eI))) (c_call (a_consP (d := (eL (eT2 eS eS)) phrases_) (rfl : _ = M.ret ((eL (eT2 eS eS)) phrases_)) (a_consP (d := (eL (eO eI)) hosts_) (rfl : _ = M.ret ((eL (eO eI)) hosts_)) (a_nil (rf_readings_of _ _ _))))) (fun rows_v80 => (rf_law_r12 k _ _ _ _ _ _ _ _ _ _ _))))
end K84

set_option Elab.async false
set_option linter.all false
set_option maxRecDepth 100000
set_option maxHeartbeats 0
namespace K84
open PySem PySem.Spec L2 DL
def t_law_r10 (count_ : Int) (phrases_ : (List (Str × Str))) (hosts_ : (List (Option Int))) (orders_ : (List (List Int))) (order_ : (List Int)) (prefix_ : (List (Str × Str))) (links_ : (List (Str × Int × Int))) (fewer_ : (List (Str × Int × Int))) (alike_ : Int) (below_ : Int) : M Bool := (((((t_count_orders count_ links_)) >>= fun v77 => .ret (!decide (alike_ = v77))) >>= fun kb => if kb then .ret true else (((t_count_orders count_ fewer_)) >>= fun v79 => .ret (!decide (below_ = v79)))) >>= fun kb => if kb then .ret false else (t_law_r11 (count_) (phrases_) (hosts_) (orders_) (order_) (prefix_) (links_) (fewer_) (alike_) (below_)))
theorem rf_law_r10 (k : Nat) (count_ : Int) (phrases_ : (List (Str × Str))) (hosts_ : (List (Option Int))) (orders_ : (List (List Int))) (order_ : (List Int)) (prefix_ : (List (Str × Str))) (links_ : (List (Str × Int × Int))) (fewer_ : (List (Str × Int × Int))) (alike_ : Int) (below_ : Int) : Rf (RFn eB) (law_r10 (k + 4) [none, some (.val (eD D.stt)), some (.val (eI count_)), some (.val ((eL (eT2 eS eS)) phrases_)), some (.val ((eL (eO eI)) hosts_)), some (.val ((eL (eL eI)) orders_)), some (.val ((eL eI) order_)), some (.val ((eL (eT2 eS eS)) prefix_)), none, none, none, none, some (.own ((eL (eT3 eS eI eI)) links_)), some (.own ((eL (eT3 eS eI eI)) fewer_)), none, some (.val (eI alike_)), some (.val (eI below_)), none, none, none]) (t_law_r10 count_ phrases_ hosts_ orders_ order_ prefix_ links_ fewer_ alike_ below_) :=
  (s_frzO (d := (eL (eT3 eS eI eI)) links_) rfl (s_frzO (d := (eL (eT3 eS eI eI)) fewer_) rfl (s_env (env' := [none, some (.val (eD D.stt)), some (.val (eI count_)), some (.val ((eL (eT2 eS eS)) phrases_)), some (.val ((eL (eO eI)) hosts_)), some (.val ((eL (eL eI)) orders_)), some (.val ((eL eI) order_)), some (.val ((eL (eT2 eS eS)) prefix_)), none, none, none, none, some (.val ((eL (eT3 eS eI eI)) links_)), some (.val ((eL (eT3 eS eI eI)) fewer_)), none, some (.val (eI alike_)), some (.val (eI below_)), none, none, none]) rfl (s_iff (r_or (t_E (b_PE (rfl : _ = M.ret (eI alike_)) (c_call (a_consP (d := eI count_) (rfl : _ = M.ret (eI count_)) (a_consP (d := (eL (eT3 eS eI eI)) links_) (rfl : _ = M.ret ((eL (eT3 eS eI eI)) links_)) (a_nil (rf_count_orders _ _ _))))) (fun v77 => (ev_ret (e := eB) (o_neE cI (by decide) _ _))))) (t_E (b_PE (rfl : _ = M.ret (eI below_)) (c_call (a_consP (d := eI count_) (rfl : _ = M.ret (eI count_)) (a_consP (d := (eL (eT3 eS eI eI)) fewer_) (rfl : _ = M.ret ((eL (eT3 eS eI eI)) fewer_)) (a_nil (rf_count_orders _ _ _))))) (fun v79 => (ev_ret (e := eB) (o_neE cI (by decide) _ _)))))) (s_env (env' := [none, some (.val (eD D.stt)), some (.val (eI count_)), some (.val ((eL (eT2 eS eS)) phrases_)), some (.val ((eL (eO eI)) hosts_)), some (.val ((eL (eL eI)) orders_)), some (.val ((eL eI) order_)), some (.val ((eL (eT2 eS eS)) prefix_)), none, none, none, none, some (.val ((eL (eT3 eS eI eI)) links_)), some (.val ((eL (eT3 eS eI eI)) fewer_)), none, some (.val (eI alike_)), some (.val (eI below_)), none, none, none]) rfl (s_retP (r := false) (x := false) (fun _ => ⟨(fun z => nomatch z), Or.inl rfl⟩) (rfl : _ = M.ret (eB false)))) (s_skip (rf_law_r11 k _ _ _ _ _ _ _ _ _ _))))))
end K84

set_option Elab.async false
set_option linter.all false
set_option maxRecDepth 100000
set_option maxHeartbeats 0
namespace K84
open PySem PySem.Spec L2 DL
def t_law_r9 (count_ : Int) (phrases_ : (List (Str × Str))) (hosts_ : (List (Option Int))) (orders_ : (List (List Int))) (order_ : (List Int)) (prefix_ : (List (Str × Str))) (links_ : (List (Str × Int × Int))) (fewer_ : (List (Str × Int × Int))) (alike_ : Int) (below_ : Int) : M Bool := ((loopR (fun x54 s55 => ((lcM (fun x56 => (M.ret true)) (fun x56 => (ixM phrases_ x56))) x54) >>= fun row_v57 => ((t_entails row_v57 prefix_)) >>= fun told_v58 => ((((t_entails_fault row_v57 prefix_ told_v58)) >>= fun v59 => .ret (!isNonD v59)) >>= fun kb => if kb then .ret (.back false) else ((((t_are_alike row_v57 prefix_)) >>= fun v61 => .ret (if v61 then (1 : Int) else 0)) >>= fun v63 => .ret (s55.1 + v63)) >>= fun alike_v64 => ((t_entails prefix_ row_v57)) >>= fun told_v65 => ((((t_entails_fault prefix_ row_v57 told_v65)) >>= fun v66 => .ret (!isNonD v66)) >>= fun kb => if kb then .ret (.back false) else ((((dIx told_v65 (eI (0 : Int))) >>= fun v68 => (asBM (dEq v68 (eS s_swaps)))) >>= fun v70 => .ret (if v70 then (1 : Int) else 0)) >>= fun v72 => .ret (s55.2 + v72)) >>= fun below_v73 => .ret (.go (alike_v64, below_v73))))) orders_ (alike_, below_)) : M (Fw (Int × Int) Bool)) >>= contR (fun s75 => (t_law_r10 (count_) (phrases_) (hosts_) (orders_) (order_) (prefix_) (links_) (fewer_) (s75.1) (s75.2))) (fun r => r)
theorem rf_law_r9 (k : Nat) (count_ : Int) (phrases_ : (List (Str × Str))) (hosts_ : (List (Option Int))) (orders_ : (List (List Int))) (order_ : (List Int)) (prefix_ : (List (Str × Str))) (links_ : (List (Str × Int × Int))) (fewer_ : (List (Str × Int × Int))) (alike_ : Int) (below_ : Int) : Rf (RFn eB) (law_r9 (k + 4) [none, some (.val (eD D.stt)), some (.val (eI count_)), some (.val ((eL (eT2 eS eS)) phrases_)), some (.val ((eL (eO eI)) hosts_)), some (.val ((eL (eL eI)) orders_)), some (.val ((eL eI) order_)), some (.val ((eL (eT2 eS eS)) prefix_)), none, none, none, none, some (.own ((eL (eT3 eS eI eI)) links_)), some (.own ((eL (eT3 eS eI eI)) fewer_)), none, some (.val (eI alike_)), some (.val (eI below_)), none, none, none]) (t_law_r9 count_ phrases_ hosts_ orders_ order_ prefix_ links_ fewer_ alike_ below_) :=
  (s_forget (s_env (env' := [none, some (.val (eD D.stt)), some (.val (eI count_)), some (.val ((eL (eT2 eS eS)) phrases_)), some (.val ((eL (eO eI)) hosts_)), some (.val ((eL (eL eI)) orders_)), some (.val ((eL eI) order_)), some (.val ((eL (eT2 eS eS)) prefix_)), none, none, none, none, some (.own ((eL (eT3 eS eI eI)) links_)), some (.own ((eL (eT3 eS eI eI)) fewer_)), none, some (.val (eI alike_)), some (.val (eI below_)), none, none, none]) rfl (s_nextR (E := (fun (s : (Int × Int)) => [none, some (.val (eD D.stt)), some (.val (eI count_)), some (.val ((eL (eT2 eS eS)) phrases_)), some (.val ((eL (eO eI)) hosts_)), some (.val ((eL (eL eI)) orders_)), some (.val ((eL eI) order_)), some (.val ((eL (eT2 eS eS)) prefix_)), none, none, none, none, some (.own ((eL (eT3 eS eI eI)) links_)), some (.own ((eL (eT3 eS eI eI)) fewer_)), none, some (.val (eI s.1)), some (.val (eI s.2)), none, none, none])) (eρ := eB) (f := fun r => r) (fun _ _ => Or.inl rfl) (l_for (e := (eL eI)) (i_L (rfl : _ = M.ret ((eL (eL eI)) orders_))) (rf_loopR (e := (eL eI)) (E := (fun (s : (Int × Int)) => [none, some (.val (eD D.stt)), some (.val (eI count_)), some (.val ((eL (eT2 eS eS)) phrases_)), some (.val ((eL (eO eI)) hosts_)), some (.val ((eL (eL eI)) orders_)), some (.val ((eL eI) order_)), some (.val ((eL (eT2 eS eS)) prefix_)), none, none, none, none, some (.own ((eL (eT3 eS eI eI)) links_)), some (.own ((eL (eT3 eS eI eI)) fewer_)), none, some (.val (eI s.1)), some (.val (eI s.2)), none, none, none])) (eρ := eB) (fun _ _ => rfl) (fun x54 s55 => (s_env (env' := [none, some (.val (eD D.stt)), some (.val (eI count_)), some (.val ((eL (eT2 eS eS)) phrases_)), some (.val ((eL (eO eI)) hosts_)), some (.val ((eL (eL eI)) orders_)), some (.val ((eL eI) order_)), some (.val ((eL (eT2 eS eS)) prefix_)), none, some (.val ((eL eI) x54)), none, none, some (.own ((eL (eT3 eS eI eI)) links_)), some (.own ((eL (eT3 eS eI eI)) fewer_)), none, some (.val (eI s55.1)), some (.val (eI s55.2)), none, none, none]) rfl (s_setE (e := (eL (eT2 eS eS))) (r_lc rfl (i_L (rfl : _ = M.ret ((eL eI) x54))) (fun _ => rfl) (fun x56 => (et_ret rfl)) (fun x56 => (b_PP (rfl : _ = M.ret ((eL (eT2 eS eS)) phrases_)) (rfl : _ = M.ret (eI x56)) (r_ix _ _)))) (fun row_v57 => (s_env (env' := [none, some (.val (eD D.stt)), some (.val (eI count_)), some (.val ((eL (eT2 eS eS)) phrases_)), some (.val ((eL (eO eI)) hosts_)), some (.val ((eL (eL eI)) orders_)), some (.val ((eL eI) order_)), some (.val ((eL (eT2 eS eS)) prefix_)), none, some (.val ((eL eI) x54)), none, none, some (.own ((eL (eT3 eS eI eI)) links_)), some (.own ((eL (eT3 eS eI eI)) fewer_)), none, some (.val (eI s55.1)), some (.val (eI s55.2)), some (.val ((eL (eT2 eS eS)) row_v57)), none, none]) rfl (s_setE (e := eD) (c_call (a_consP (d := (eL (eT2 eS eS)) row_v57) (rfl : _ = M.ret ((eL (eT2 eS eS)) row_v57)) (a_consP (d := (eL (eT2 eS eS)) prefix_) (rfl : _ = M.ret ((eL (eT2 eS eS)) prefix_)) (a_nil (rf_entails _ _ _))))) (fun told_v58 => (s_env (env' := [none, some (.val (eD D.stt)), some (.val (eI count_)), some (.val ((eL (eT2 eS eS)) phrases_)), some (.val ((eL (eO eI)) hosts_)), some (.val ((eL (eL eI)) orders_)), some (.val ((eL eI) order_)), some (.val ((eL (eT2 eS eS)) prefix_)), none, some (.val ((eL eI) x54)), none, some (.val (eD told_v58)), some (.own ((eL (eT3 eS eI eI)) links_)), some (.own ((eL (eT3 eS eI eI)) fewer_)), none, some (.val (eI s55.1)), some (.val (eI s55.2)), some (.val ((eL (eT2 eS eS)) row_v57)), none, none]) rfl (s_iff (t_E (b_EP (c_call (a_consP (d := (eL (eT2 eS eS)) row_v57) (rfl : _ = M.ret ((eL (eT2 eS eS)) row_v57)) (a_consP (d := (eL (eT2 eS eS)) prefix_) (rfl : _ = M.ret ((eL (eT2 eS eS)) prefix_)) (a_consP (d := eD told_v58) (rfl : _ = M.ret (eD told_v58)) (a_nil (rf_entails_fault _ _ _ _)))))) (rfl : _ = M.ret (eN ())) (fun v59 => (ev_ret (e := eB) (o_isNotD _))))) (s_env (env' := [none, some (.val (eD D.stt)), some (.val (eI count_)), some (.val ((eL (eT2 eS eS)) phrases_)), some (.val ((eL (eO eI)) hosts_)), some (.val ((eL (eL eI)) orders_)), some (.val ((eL eI) order_)), some (.val ((eL (eT2 eS eS)) prefix_)), none, some (.val ((eL eI) x54)), none, some (.val (eD told_v58)), some (.own ((eL (eT3 eS eI eI)) links_)), some (.own ((eL (eT3 eS eI eI)) fewer_)), none, some (.val (eI s55.1)), some (.val (eI s55.2)), some (.val ((eL (eT2 eS eS)) row_v57)), none, none]) rfl (s_retP (r := false) (x := Fw.back false) (fun _ => ⟨(fun z => nomatch z), rfl⟩) (rfl : _ = M.ret (eB false)))) (s_skip (s_env (env' := [none, some (.val (eD D.stt)), some (.val (eI count_)), some (.val ((eL (eT2 eS eS)) phrases_)), some (.val ((eL (eO eI)) hosts_)), some (.val ((eL (eL eI)) orders_)), some (.val ((eL eI) order_)), some (.val ((eL (eT2 eS eS)) prefix_)), none, some (.val ((eL eI) x54)), none, some (.val (eD told_v58)), some (.own ((eL (eT3 eS eI eI)) links_)), some (.own ((eL (eT3 eS eI eI)) fewer_)), none, some (.val (eI s55.1)), some (.val (eI s55.2)), some (.val ((eL (eT2 eS eS)) row_v57)), none, none]) rfl (s_setE (e := eI) (b_PE (rfl : _ = M.ret (eI s55.1)) (c_call (a_cons (c_call (a_consP (d := (eL (eT2 eS eS)) row_v57) (rfl : _ = M.ret ((eL (eT2 eS eS)) row_v57)) (a_consP (d := (eL (eT2 eS eS)) prefix_) (rfl : _ = M.ret ((eL (eT2 eS eS)) prefix_)) (a_nil (rf_are_alike _ _ _))))) (fun v61 => (a_nil (ev_ret (e := eI) (o_intB _)))))) (fun v63 => (ev_ret (e := eI) rfl))) (fun alike_v64 => (s_env (env' := [none, some (.val (eD D.stt)), some (.val (eI count_)), some (.val ((eL (eT2 eS eS)) phrases_)), some (.val ((eL (eO eI)) hosts_)), some (.val ((eL (eL eI)) orders_)), some (.val ((eL eI) order_)), some (.val ((eL (eT2 eS eS)) prefix_)), none, some (.val ((eL eI) x54)), none, some (.val (eD told_v58)), some (.own ((eL (eT3 eS eI eI)) links_)), some (.own ((eL (eT3 eS eI eI)) fewer_)), none, some (.val (eI alike_v64)), some (.val (eI s55.2)), some (.val ((eL (eT2 eS eS)) row_v57)), none, none]) rfl (s_setE (e := eD) (c_call (a_consP (d := (eL (eT2 eS eS)) prefix_) (rfl : _ = M.ret ((eL (eT2 eS eS)) prefix_)) (a_consP (d := (eL (eT2 eS eS)) row_v57) (rfl : _ = M.ret ((eL (eT2 eS eS)) row_v57)) (a_nil (rf_entails _ _ _))))) (fun told_v65 => (s_env (env' := [none, some (.val (eD D.stt)), some (.val (eI count_)), some (.val ((eL (eT2 eS eS)) phrases_)), some (.val ((eL (eO eI)) hosts_)), some (.val ((eL (eL eI)) orders_)), some (.val ((eL eI) order_)), some (.val ((eL (eT2 eS eS)) prefix_)), none, some (.val ((eL eI) x54)), none, some (.val (eD told_v65)), some (.own ((eL (eT3 eS eI eI)) links_)), some (.own ((eL (eT3 eS eI eI)) fewer_)), none, some (.val (eI alike_v64)), some (.val (eI s55.2)), some (.val ((eL (eT2 eS eS)) row_v57)), none, none]) rfl (s_iff (t_E (b_EP (c_call (a_consP (d := (eL (eT2 eS eS)) prefix_) (rfl : _ = M.ret ((eL (eT2 eS eS)) prefix_)) (a_consP (d := (eL (eT2 eS eS)) row_v57) (rfl : _ = M.ret ((eL (eT2 eS eS)) row_v57)) (a_consP (d := eD told_v65) (rfl : _ = M.ret (eD told_v65)) (a_nil (rf_entails_fault _ _ _ _)))))) (rfl : _ = M.ret (eN ())) (fun v66 => (ev_ret (e := eB) (o_isNotD _))))) (s_env (env' := [none, some (.val (eD D.stt)), some (.val (eI count_)), some (.val ((eL (eT2 eS eS)) phrases_)), some (.val ((eL (eO eI)) hosts_)), some (.val ((eL (eL eI)) orders_)), some (.val ((eL eI) order_)), some (.val ((eL (eT2 eS eS)) prefix_)), none, some (.val ((eL eI) x54)), none, some (.val (eD told_v65)), some (.own ((eL (eT3 eS eI eI)) links_)), some (.own ((eL (eT3 eS eI eI)) fewer_)), none, some (.val (eI alike_v64)), some (.val (eI s55.2)), some (.val ((eL (eT2 eS eS)) row_v57)), none, none]) rfl (s_retP (r := false) (x := Fw.back false) (fun _ => ⟨(fun z => nomatch z), rfl⟩) (rfl : _ = M.ret (eB false)))) (s_skip (s_env (env' := [none, some (.val (eD D.stt)), some (.val (eI count_)), some (.val ((eL (eT2 eS eS)) phrases_)), some (.val ((eL (eO eI)) hosts_)), some (.val ((eL (eL eI)) orders_)), some (.val ((eL eI) order_)), some (.val ((eL (eT2 eS eS)) prefix_)), none, some (.val ((eL eI) x54)), none, some (.val (eD told_v65)), some (.own ((eL (eT3 eS eI eI)) links_)), some (.own ((eL (eT3 eS eI eI)) fewer_)), none, some (.val (eI alike_v64)), some (.val (eI s55.2)), some (.val ((eL (eT2 eS eS)) row_v57)), none, none]) rfl (s_setE (e := eI) (b_PE (rfl : _ = M.ret (eI s55.2)) (c_call (a_cons (b_EP (b_PP (rfl : _ = M.ret (eD told_v65)) (rfl : _ = M.ret (eI (0 : Int))) (ev_id _)) (rfl : _ = M.ret (eS s_swaps)) (fun v68 => (ev_asB _))) (fun v70 => (a_nil (ev_ret (e := eI) (o_intB _)))))) (fun v72 => (ev_ret (e := eI) rfl))) (fun below_v73 => (e_goT rfl))))))))))))))))))))))) orders_ (alike_, below_))) (fun s75 => (rf_law_r10 k _ _ _ _ _ _ _ _ _ _)))))
end K84

set_option Elab.async false
set_option linter.all false
set_option maxRecDepth 100000
set_option maxHeartbeats 0
namespace K84
open PySem PySem.Spec L2 DL
def t_law_r8 (count_ : Int) (phrases_ : (List (Str × Str))) (hosts_ : (List (Option Int))) (orders_ : (List (List Int))) (order_ : (List Int)) (prefix_ : (List (Str × Str))) (links_ : (List (Str × Int × Int))) (fewer_ : (List (Str × Int × Int))) : M Bool := (M.ret ((0 : Int), (0 : Int))) >>= fun u53 => (t_law_r9 (count_) (phrases_) (hosts_) (orders_) (order_) (prefix_) (links_) (fewer_) (u53.1) (u53.2))
theorem rf_law_r8 (k : Nat) (count_ : Int) (phrases_ : (List (Str × Str))) (hosts_ : (List (Option Int))) (orders_ : (List (List Int))) (order_ : (List Int)) (prefix_ : (List (Str × Str))) (links_ : (List (Str × Int × Int))) (fewer_ : (List (Str × Int × Int))) : Rf (RFn eB) (law_r8 (k + 4) [none, some (.val (eD D.stt)), some (.val (eI count_)), some (.val ((eL (eT2 eS eS)) phrases_)), some (.val ((eL (eO eI)) hosts_)), some (.val ((eL (eL eI)) orders_)), some (.val ((eL eI) order_)), some (.val ((eL (eT2 eS eS)) prefix_)), none, none, none, none, some (.own ((eL (eT3 eS eI eI)) links_)), some (.own ((eL (eT3 eS eI eI)) fewer_)), none, none, none, none, none, none]) (t_law_r8 count_ phrases_ hosts_ orders_ order_ prefix_ links_ fewer_) :=
  (s_env (env' := [none, some (.val (eD D.stt)), some (.val (eI count_)), some (.val ((eL (eT2 eS eS)) phrases_)), some (.val ((eL (eO eI)) hosts_)), some (.val ((eL (eL eI)) orders_)), some (.val ((eL eI) order_)), some (.val ((eL (eT2 eS eS)) prefix_)), none, none, none, none, some (.own ((eL (eT3 eS eI eI)) links_)), some (.own ((eL (eT3 eS eI eI)) fewer_)), none, none, none, none, none, none]) rfl (s_asgE (e := (eT2 eI eI)) (ev_ret (e := (eT2 eI eI)) (p_tup (ds := [eI (0 : Int), eI (0 : Int)]) (p_cons (rfl : _ = M.ret (eI (0 : Int))) (p_cons (rfl : _ = M.ret (eI (0 : Int))) p_nil)) (p_len (n := 2) (by decide)))) (fun _ => rfl) (fun u53 => (rf_law_r9 k _ _ _ _ _ _ _ _ _ _))))
end K84

set_option Elab.async false
set_option linter.all false
set_option maxRecDepth 100000
set_option maxHeartbeats 0
namespace K84
open PySem PySem.Spec L2 DL
def t_law_r7 (count_ : Int) (phrases_ : (List (Str × Str))) (hosts_ : (List (Option Int))) (orders_ : (List (List Int))) (order_ : (List Int)) (prefix_ : (List (Str × Str))) (links_ : (List (Str × Int × Int))) (fewer_ : (List (Str × Int × Int))) : M Bool := (((rgM 0 count_) >>= fun v51 => loopM (fun x19 s20 => (((rgM (x19 + (1 : Int)) count_) >>= fun v49 => loopM (fun x21 s22 => ((((((ixM order_ x19) >>= fun v24 => (ixM phrases_ v24)) >>= fun v25 => .ret v25.1) >>= fun v31 => (((ixM order_ x21) >>= fun v28 => (ixM phrases_ v28)) >>= fun v29 => .ret v29.1) >>= fun v32 => .ret (!decide (v31 = v32))) >>= fun kb => if kb then ((ixM order_ x19) >>= fun v33 => (ixM order_ x21) >>= fun v34 => .ret (s_ahead, v33, v34)) >>= fun v47 => appM s22.1 v47 >>= fun links_v35 => ((((((ixM order_ x19) >>= fun v37 => (ixM phrases_ v37)) >>= fun v38 => .ret v38.1) >>= fun v40 => .ret (decide (v40 = s_all))) >>= fun kb => if kb then ((ixM order_ x19) >>= fun v42 => (ixM order_ x21) >>= fun v43 => .ret (s_ahead, v42, v43)) >>= fun v45 => appM s22.2 v45 >>= fun fewer_v44 => .ret fewer_v44 else .ret s22.2) : M (List (Str × Int × Int))) >>= fun s46 => .ret (links_v35, s46) else .ret (s22.1, s22.2)) : M ((List (Str × Int × Int)) × (List (Str × Int × Int)))) >>= fun s48 => .ret (s48.1, s48.2)) v49 (s20.1, s20.2)) : M ((List (Str × Int × Int)) × (List (Str × Int × Int)))) >>= fun s50 => .ret (s50.1, s50.2)) v51 (links_, fewer_)) : M ((List (Str × Int × Int)) × (List (Str × Int × Int)))) >>= fun s52 => (t_law_r8 (count_) (phrases_) (hosts_) (orders_) (order_) (prefix_) (s52.1) (s52.2))
theorem rf_law_r7 (k : Nat) (count_ : Int) (phrases_ : (List (Str × Str))) (hosts_ : (List (Option Int))) (orders_ : (List (List Int))) (order_ : (List Int)) (prefix_ : (List (Str × Str))) (links_ : (List (Str × Int × Int))) (fewer_ : (List (Str × Int × Int))) : Rf (RFn eB) (law_r7 (k + 4) [none, some (.val (eD D.stt)), some (.val (eI count_)), some (.val ((eL (eT2 eS eS)) phrases_)), some (.val ((eL (eO eI)) hosts_)), some (.val ((eL (eL eI)) orders_)), some (.val ((eL eI) order_)), some (.val ((eL (eT2 eS eS)) prefix_)), none, none, none, none, some (.own ((eL (eT3 eS eI eI)) links_)), some (.own ((eL (eT3 eS eI eI)) fewer_)), none, none, none, none, none, none]) (t_law_r7 count_ phrases_ hosts_ orders_ order_ prefix_ links_ fewer_) :=
  (s_forget (s_env (env' := [none, some (.val (eD D.stt)), some (.val (eI count_)), some (.val ((eL (eT2 eS eS)) phrases_)), some (.val ((eL (eO eI)) hosts_)), some (.val ((eL (eL eI)) orders_)), some (.val ((eL eI) order_)), some (.val ((eL (eT2 eS eS)) prefix_)), none, none, none, none, some (.own ((eL (eT3 eS eI eI)) links_)), some (.own ((eL (eT3 eS eI eI)) fewer_)), none, none, none, none, none, none]) rfl (s_next (E := (fun (s : ((List (Str × Int × Int)) × (List (Str × Int × Int)))) => [none, some (.val (eD D.stt)), some (.val (eI count_)), some (.val ((eL (eT2 eS eS)) phrases_)), some (.val ((eL (eO eI)) hosts_)), some (.val ((eL (eL eI)) orders_)), some (.val ((eL eI) order_)), some (.val ((eL (eT2 eS eS)) prefix_)), none, none, none, none, some (.own ((eL (eT3 eS eI eI)) s.1)), some (.own ((eL (eT3 eS eI eI)) s.2)), none, none, none, none, none, none])) (l_forE (e := eI) (i_rg1 (rfl : _ = M.ret (eI count_))) (fun v51 => (rf_loopM (e := eI) (E := (fun (s : ((List (Str × Int × Int)) × (List (Str × Int × Int)))) => [none, some (.val (eD D.stt)), some (.val (eI count_)), some (.val ((eL (eT2 eS eS)) phrases_)), some (.val ((eL (eO eI)) hosts_)), some (.val ((eL (eL eI)) orders_)), some (.val ((eL eI) order_)), some (.val ((eL (eT2 eS eS)) prefix_)), none, none, none, none, some (.own ((eL (eT3 eS eI eI)) s.1)), some (.own ((eL (eT3 eS eI eI)) s.2)), none, none, none, none, none, none])) (fun _ _ => rfl) (fun x19 s20 => (s_forget (s_env (env' := [none, some (.val (eD D.stt)), some (.val (eI count_)), some (.val ((eL (eT2 eS eS)) phrases_)), some (.val ((eL (eO eI)) hosts_)), some (.val ((eL (eL eI)) orders_)), some (.val ((eL eI) order_)), some (.val ((eL (eT2 eS eS)) prefix_)), some (.val (eI x19)), none, none, none, some (.own ((eL (eT3 eS eI eI)) s20.1)), some (.own ((eL (eT3 eS eI eI)) s20.2)), none, none, none, none, none, none]) rfl (s_next (E := (fun (s : ((List (Str × Int × Int)) × (List (Str × Int × Int)))) => [none, some (.val (eD D.stt)), some (.val (eI count_)), some (.val ((eL (eT2 eS eS)) phrases_)), some (.val ((eL (eO eI)) hosts_)), some (.val ((eL (eL eI)) orders_)), some (.val ((eL eI) order_)), some (.val ((eL (eT2 eS eS)) prefix_)), some (.val (eI x19)), none, none, none, some (.own ((eL (eT3 eS eI eI)) s.1)), some (.own ((eL (eT3 eS eI eI)) s.2)), none, none, none, none, none, none])) (l_forE (e := eI) (i_rg2 (p_bin (rfl : _ = M.ret (eI x19)) (rfl : _ = M.ret (eI (1 : Int))) rfl) (rfl : _ = M.ret (eI count_))) (fun v49 => (rf_loopM (e := eI) (E := (fun (s : ((List (Str × Int × Int)) × (List (Str × Int × Int)))) => [none, some (.val (eD D.stt)), some (.val (eI count_)), some (.val ((eL (eT2 eS eS)) phrases_)), some (.val ((eL (eO eI)) hosts_)), some (.val ((eL (eL eI)) orders_)), some (.val ((eL eI) order_)), some (.val ((eL (eT2 eS eS)) prefix_)), some (.val (eI x19)), none, none, none, some (.own ((eL (eT3 eS eI eI)) s.1)), some (.own ((eL (eT3 eS eI eI)) s.2)), none, none, none, none, none, none])) (fun _ _ => rfl) (fun x21 s22 => (s_env (env' := [none, some (.val (eD D.stt)), some (.val (eI count_)), some (.val ((eL (eT2 eS eS)) phrases_)), some (.val ((eL (eO eI)) hosts_)), some (.val ((eL (eL eI)) orders_)), some (.val ((eL eI) order_)), some (.val ((eL (eT2 eS eS)) prefix_)), some (.val (eI x19)), none, none, none, some (.own ((eL (eT3 eS eI eI)) s22.1)), some (.own ((eL (eT3 eS eI eI)) s22.2)), some (.val (eI x21)), none, none, none, none, none]) rfl (s_next (E := (fun (s : ((List (Str × Int × Int)) × (List (Str × Int × Int)))) => [none, some (.val (eD D.stt)), some (.val (eI count_)), some (.val ((eL (eT2 eS eS)) phrases_)), some (.val ((eL (eO eI)) hosts_)), some (.val ((eL (eL eI)) orders_)), some (.val ((eL eI) order_)), some (.val ((eL (eT2 eS eS)) prefix_)), some (.val (eI x19)), none, none, none, some (.own ((eL (eT3 eS eI eI)) s.1)), some (.own ((eL (eT3 eS eI eI)) s.2)), some (.val (eI x21)), none, none, none, none, none])) (s_if (t_E (b_EE (b_EP (b_PE (rfl : _ = M.ret ((eL (eT2 eS eS)) phrases_)) (b_PP (rfl : _ = M.ret ((eL eI) order_)) (rfl : _ = M.ret (eI x19)) (r_ix _ _)) (fun v24 => (r_ix _ _))) (rfl : _ = M.ret (eI (0 : Int))) (fun v25 => (ev_ret (e := eS) rfl))) (b_EP (b_PE (rfl : _ = M.ret ((eL (eT2 eS eS)) phrases_)) (b_PP (rfl : _ = M.ret ((eL eI) order_)) (rfl : _ = M.ret (eI x21)) (r_ix _ _)) (fun v28 => (r_ix _ _))) (rfl : _ = M.ret (eI (0 : Int))) (fun v29 => (ev_ret (e := eS) rfl))) (fun v31 v32 => (ev_ret (e := eB) (o_neE cS (by decide) _ _))))) (s_env (env' := [none, some (.val (eD D.stt)), some (.val (eI count_)), some (.val ((eL (eT2 eS eS)) phrases_)), some (.val ((eL (eO eI)) hosts_)), some (.val ((eL (eL eI)) orders_)), some (.val ((eL eI) order_)), some (.val ((eL (eT2 eS eS)) prefix_)), some (.val (eI x19)), none, none, none, some (.own ((eL (eT3 eS eI eI)) s22.1)), some (.own ((eL (eT3 eS eI eI)) s22.2)), some (.val (eI x21)), none, none, none, none, none]) rfl (s_appE (r_tup (a_consP (d := eS s_ahead) (rfl : _ = M.ret (eS s_ahead)) (a_cons (b_PP (rfl : _ = M.ret ((eL eI) order_)) (rfl : _ = M.ret (eI x19)) (r_ix _ _)) (fun v33 => (a_cons (b_PP (rfl : _ = M.ret ((eL eI) order_)) (rfl : _ = M.ret (eI x21)) (r_ix _ _)) (fun v34 => (a_nil (k_disp (R := Re (eT3 eS eI eI)) (r := ((s_ahead, v33, v34) : (Str × Int × Int))) (p_len (n := 3) (by decide)) rfl)))))))) rfl (fun links_v35 => (s_env (env' := [none, some (.val (eD D.stt)), some (.val (eI count_)), some (.val ((eL (eT2 eS eS)) phrases_)), some (.val ((eL (eO eI)) hosts_)), some (.val ((eL (eL eI)) orders_)), some (.val ((eL eI) order_)), some (.val ((eL (eT2 eS eS)) prefix_)), some (.val (eI x19)), none, none, none, some (.own ((eL (eT3 eS eI eI)) links_v35)), some (.own ((eL (eT3 eS eI eI)) s22.2)), some (.val (eI x21)), none, none, none, none, none]) rfl (s_next (E := (fun (s : (List (Str × Int × Int))) => [none, some (.val (eD D.stt)), some (.val (eI count_)), some (.val ((eL (eT2 eS eS)) phrases_)), some (.val ((eL (eO eI)) hosts_)), some (.val ((eL (eL eI)) orders_)), some (.val ((eL eI) order_)), some (.val ((eL (eT2 eS eS)) prefix_)), some (.val (eI x19)), none, none, none, some (.own ((eL (eT3 eS eI eI)) links_v35)), some (.own ((eL (eT3 eS eI eI)) s)), some (.val (eI x21)), none, none, none, none, none])) (s_if (t_E (b_EP (b_EP (b_PE (rfl : _ = M.ret ((eL (eT2 eS eS)) phrases_)) (b_PP (rfl : _ = M.ret ((eL eI) order_)) (rfl : _ = M.ret (eI x19)) (r_ix _ _)) (fun v37 => (r_ix _ _))) (rfl : _ = M.ret (eI (0 : Int))) (fun v38 => (ev_ret (e := eS) rfl))) (rfl : _ = M.ret (eS s_all)) (fun v40 => (ev_ret (e := eB) (o_eqE cS (by decide) _ _))))) (s_env (env' := [none, some (.val (eD D.stt)), some (.val (eI count_)), some (.val ((eL (eT2 eS eS)) phrases_)), some (.val ((eL (eO eI)) hosts_)), some (.val ((eL (eL eI)) orders_)), some (.val ((eL eI) order_)), some (.val ((eL (eT2 eS eS)) prefix_)), some (.val (eI x19)), none, none, none, some (.own ((eL (eT3 eS eI eI)) links_v35)), some (.own ((eL (eT3 eS eI eI)) s22.2)), some (.val (eI x21)), none, none, none, none, none]) rfl (s_appE (r_tup (a_consP (d := eS s_ahead) (rfl : _ = M.ret (eS s_ahead)) (a_cons (b_PP (rfl : _ = M.ret ((eL eI) order_)) (rfl : _ = M.ret (eI x19)) (r_ix _ _)) (fun v42 => (a_cons (b_PP (rfl : _ = M.ret ((eL eI) order_)) (rfl : _ = M.ret (eI x21)) (r_ix _ _)) (fun v43 => (a_nil (k_disp (R := Re (eT3 eS eI eI)) (r := ((s_ahead, v42, v43) : (Str × Int × Int))) (p_len (n := 3) (by decide)) rfl)))))))) rfl (fun fewer_v44 => (e_goN rfl)))) (e_goN rfl)) (fun s46 => (e_goN rfl))))))) (e_goN rfl)) (fun s48 => (e_goX rfl))))) v49 (s20.1, s20.2)))) (fun s50 => (e_goX rfl)))))) v51 (links_, fewer_)))) (fun s52 => (rf_law_r8 k _ _ _ _ _ _ _ _)))))
end K84

set_option Elab.async false
set_option linter.all false
set_option maxRecDepth 100000
set_option maxHeartbeats 0
namespace K84
open PySem PySem.Spec L2 DL
def t_law_r6 (count_ : Int) (phrases_ : (List (Str × Str))) (hosts_ : (List (Option Int))) (orders_ : (List (List Int))) (order_ : (List Int)) (prefix_ : (List (Str × Str))) : M Bool := (t_law_r7 (count_) (phrases_) (hosts_) (orders_) (order_) (prefix_) (([] : (List (Str × Int × Int)))) (([] : (List (Str × Int × Int)))))
theorem rf_law_r6 (k : Nat) (count_ : Int) (phrases_ : (List (Str × Str))) (hosts_ : (List (Option Int))) (orders_ : (List (List Int))) (order_ : (List Int)) (prefix_ : (List (Str × Str))) : Rf (RFn eB) (law_r6 (k + 4) [none, some (.val (eD D.stt)), some (.val (eI count_)), some (.val ((eL (eT2 eS eS)) phrases_)), some (.val ((eL (eO eI)) hosts_)), some (.val ((eL (eL eI)) orders_)), some (.val ((eL eI) order_)), some (.val ((eL (eT2 eS eS)) prefix_)), none, none, none, none, none, none, none, none, none, none, none, none]) (t_law_r6 count_ phrases_ hosts_ orders_ order_ prefix_) :=
  (s_env (env' := [none, some (.val (eD D.stt)), some (.val (eI count_)), some (.val ((eL (eT2 eS eS)) phrases_)), some (.val ((eL (eO eI)) hosts_)), some (.val ((eL (eL eI)) orders_)), some (.val ((eL eI) order_)), some (.val ((eL (eT2 eS eS)) prefix_)), none, none, none, none, none, none, none, none, none, none, none, none]) rfl (s_parN (e := (eT3 eS eI eI)) (f := (eT3 eS eI eI)) (rf_law_r7 k _ _ _ _ _ _ _ _)))
end K84

set_option Elab.async false
set_option linter.all false
set_option maxRecDepth 100000
set_option maxHeartbeats 0
namespace K84
open PySem PySem.Spec L2 DL
def t_law_r5 (count_ : Int) (phrases_ : (List (Str × Str))) (hosts_ : (List (Option Int))) (orders_ : (List (List Int))) (order_ : (List Int)) : M Bool := ((lcM (fun x17 => (M.ret true)) (fun x17 => (ixM phrases_ x17))) order_) >>= fun prefix_v18 => (t_law_r6 (count_) (phrases_) (hosts_) (orders_) (order_) (prefix_v18))
theorem rf_law_r5 (k : Nat) (count_ : Int) (phrases_ : (List (Str × Str))) (hosts_ : (List (Option Int))) (orders_ : (List (List Int))) (order_ : (List Int)) : Rf (RFn eB) (law_r5 (k + 4) [none, some (.val (eD D.stt)), some (.val (eI count_)), some (.val ((eL (eT2 eS eS)) phrases_)), some (.val ((eL (eO eI)) hosts_)), some (.val ((eL (eL eI)) orders_)), some (.val ((eL eI) order_)), none, none, none, none, none, none, none, none, none, none, none, none, none]) (t_law_r5 count_ phrases_ hosts_ orders_ order_) :=
  (s_env (env' := [none, some (.val (eD D.stt)), some (.val (eI count_)), some (.val ((eL (eT2 eS eS)) phrases_)), some (.val ((eL (eO eI)) hosts_)), some (.val ((eL (eL eI)) orders_)), some (.val ((eL eI) order_)), none, none, none, none, none, none, none, none, none, none, none, none, none]) rfl (s_setE (e := (eL (eT2 eS eS))) (r_lc rfl (i_L (rfl : _ = M.ret ((eL eI) order_))) (fun _ => rfl) (fun x17 => (et_ret rfl)) (fun x17 => (b_PP (rfl : _ = M.ret ((eL (eT2 eS eS)) phrases_)) (rfl : _ = M.ret (eI x17)) (r_ix _ _)))) (fun prefix_v18 => (rf_law_r6 k _ _ _ _ _ _))))
end K84

set_option Elab.async false
set_option linter.all false
set_option maxRecDepth 100000
set_option maxHeartbeats 0
namespace K84
open PySem PySem.Spec L2 DL
def t_law_r4 (count_ : Int) (phrases_ : (List (Str × Str))) (hosts_ : (List (Option Int))) (orders_ : (List (List Int))) : M Bool := (((askM ((orders_.length : Nat) : Int))) >>= fun v15 => (ixM orders_ v15)) >>= fun order_v16 => (t_law_r5 (count_) (phrases_) (hosts_) (orders_) (order_v16))
theorem rf_law_r4 (k : Nat) (count_ : Int) (phrases_ : (List (Str × Str))) (hosts_ : (List (Option Int))) (orders_ : (List (List Int))) : Rf (RFn eB) (law_r4 (k + 4) [none, some (.val (eD D.stt)), some (.val (eI count_)), some (.val ((eL (eT2 eS eS)) phrases_)), some (.val ((eL (eO eI)) hosts_)), some (.val ((eL (eL eI)) orders_)), none, none, none, none, none, none, none, none, none, none, none, none, none, none]) (t_law_r4 count_ phrases_ hosts_ orders_) :=
  (s_env (env' := [none, some (.val (eD D.stt)), some (.val (eI count_)), some (.val ((eL (eT2 eS eS)) phrases_)), some (.val ((eL (eO eI)) hosts_)), some (.val ((eL (eL eI)) orders_)), none, none, none, none, none, none, none, none, none, none, none, none, none, none]) rfl (s_setE (e := (eL eI)) (b_PE (rfl : _ = M.ret ((eL (eL eI)) orders_)) (c_call (a_consP (d := eD D.stt) (rfl : _ = M.ret (eD D.stt)) (a_consP (d := eI ((orders_.length : Nat) : Int)) (p_call (p_cons (rfl : _ = M.ret ((eL (eL eI)) orders_)) p_nil) (o_lenL _)) (a_nil (r_take _))))) (fun v15 => (r_ix _ _))) (fun order_v16 => (rf_law_r5 k _ _ _ _ _))))
end K84

set_option Elab.async false
set_option linter.all false
set_option maxRecDepth 100000
set_option maxHeartbeats 0
namespace K84
open PySem PySem.Spec L2 DL
def t_law_r3 (count_ : Int) (phrases_ : (List (Str × Str))) (hosts_ : (List (Option Int))) : M Bool := ((t_orders_of phrases_ hosts_)) >>= fun orders_v13 => (t_law_r4 (count_) (phrases_) (hosts_) (orders_v13))
theorem rf_law_r3 (k : Nat) (count_ : Int) (phrases_ : (List (Str × Str))) (hosts_ : (List (Option Int))) : Rf (RFn eB) (law_r3 (k + 4) [none, some (.val (eD D.stt)), some (.val (eI count_)), some (.val ((eL (eT2 eS eS)) phrases_)), some (.val ((eL (eO eI)) hosts_)), none, none, none, none, none, none, none, none, none, none, none, none, none, none, none]) (t_law_r3 count_ phrases_ hosts_) :=
  (s_env (env' := [none, some (.val (eD D.stt)), some (.val (eI count_)), some (.val ((eL (eT2 eS eS)) phrases_)), some (.val ((eL (eO eI)) hosts_)), none, none, none, none, none, none, none, none, none, none, none, none, none, none, none]) rfl (s_setE (e := (eL (eL eI))) (c_call (a_consP (d := (eL (eT2 eS eS)) phrases_) (rfl : _ = M.ret ((eL (eT2 eS eS)) phrases_)) (a_consP (d := (eL (eO eI)) hosts_) (rfl : _ = M.ret ((eL (eO eI)) hosts_)) (a_nil (rf_orders_of _ _ _))))) (fun orders_v13 => (rf_law_r4 k _ _ _ _))))
end K84

set_option Elab.async false
set_option linter.all false
set_option maxRecDepth 100000
set_option maxHeartbeats 0
namespace K84
open PySem PySem.Spec L2 DL
def t_law : M Bool := (((askM (4 : Int))) >>= fun v2 => .ret ((1 : Int) + v2)) >>= fun count_v3 => ((rgM 0 count_v3) >>= fun v9 => (lcM (fun x4 => (M.ret true)) (fun x4 => ((((askM (2 : Int))) >>= fun v6 => (ixM [s_all, s_some] v6)) >>= fun v7 => (ixS s_xyzw x4) >>= fun v8 => .ret (v7, v8)))) v9) >>= fun phrases_v10 => (M.ret (phrases_v10.map (fun x11 => (none : (Option Int))))) >>= fun hosts_v12 => (t_law_r3 (count_v3) (phrases_v10) (hosts_v12))
theorem rf_law (k : Nat) : Rf (RFn eB) (b_law (k + 4) (none :: some (.val .stt) :: List.replicate 18 none)) (t_law) :=
  (s_env (env' := [none, some (.val (eD D.stt)), none, none, none, none, none, none, none, none, none, none, none, none, none, none, none, none, none, none]) rfl (s_setE (e := eI) (b_PE (rfl : _ = M.ret (eI (1 : Int))) (c_call (a_consP (d := eD D.stt) (rfl : _ = M.ret (eD D.stt)) (a_consP (d := eI (4 : Int)) (rfl : _ = M.ret (eI (4 : Int))) (a_nil (r_take _))))) (fun v2 => (ev_ret (e := eI) rfl))) (fun count_v3 => (s_env (env' := [none, some (.val (eD D.stt)), some (.val (eI count_v3)), none, none, none, none, none, none, none, none, none, none, none, none, none, none, none, none, none]) rfl (s_setE (e := (eL (eT2 eS eS))) (r_lcE rfl (i_rg1 (rfl : _ = M.ret (eI count_v3))) (fun _ => rfl) (fun x4 => (et_ret rfl)) (fun x4 => (r_tup (a_cons (b_PE (p_lstE (e := eS) (xs := [s_all, s_some]) (p_cons (rfl : _ = M.ret (eS s_all)) (p_cons (rfl : _ = M.ret (eS s_some)) p_nil)) (p_len (n := 2) (by decide))) (c_call (a_consP (d := eD D.stt) (rfl : _ = M.ret (eD D.stt)) (a_consP (d := eI (2 : Int)) (rfl : _ = M.ret (eI (2 : Int))) (a_nil (r_take _))))) (fun v6 => (r_ix _ _))) (fun v7 => (a_cons (b_PP (rfl : _ = M.ret (eS s_xyzw)) (rfl : _ = M.ret (eI x4)) (r_ixS _ _)) (fun v8 => (a_nil (k_disp (R := Re (eT2 eS eS)) (r := ((v7, v8) : (Str × Str))) (p_len (n := 2) (by decide)) rfl))))))))) (fun phrases_v10 => (s_env (env' := [none, some (.val (eD D.stt)), some (.val (eI count_v3)), some (.val ((eL (eT2 eS eS)) phrases_v10)), none, none, none, none, none, none, none, none, none, none, none, none, none, none, none, none]) rfl (s_setE (e := (eL (eO eI))) (ev_ret (e := (eL (eO eI))) (p_lcA (e := (eT2 eS eS)) (f := (eO eI)) (xs := phrases_v10) (g := fun x11 => (none : (Option Int))) rfl (i_L (rfl : _ = M.ret ((eL (eT2 eS eS)) phrases_v10))) (fun _ => rfl) (fun x11 => (rfl : _ = M.ret (eN ()))))) (fun hosts_v12 => (rf_law_r3 k _ _ _))))))))))
end K84

set_option Elab.async false
set_option linter.all false
set_option maxRecDepth 100000
set_option maxHeartbeats 0
namespace K84
open PySem PySem.Spec L2 DL
/-- count, phrases, orders, orders looked at -/
structure Grp where
  count : Int
  phrases : List (Str × Str)
  orders : List (List Int)
  part : List (List Int)
def Grp.hosts (g : Grp) : List (Option Int) := g.phrases.map fun _ => none
def okG (g : Grp) : Bool := g.part.all fun o => (t_law_r5 g.count g.phrases g.hosts g.orders o).all id
def or1 : List (List Int) := [[0]]
def or2 : List (List Int) := [[0, 1], [1, 0]]
def or3 : List (List Int) := [[0, 1, 2], [0, 2, 1], [1, 0, 2], [1, 2, 0], [2, 0, 1], [2, 1, 0]]
def or4 : List (List Int) := [[0, 1, 2, 3], [0, 1, 3, 2], [0, 2, 1, 3], [0, 2, 3, 1], [0, 3, 1, 2], [0, 3, 2, 1], [1, 0, 2, 3], [1, 0, 3, 2], [1, 2, 0, 3], [1, 2, 3, 0], [1, 3, 0, 2], [1, 3, 2, 0], [2, 0, 1, 3], [2, 0, 3, 1], [2, 1, 0, 3], [2, 1, 3, 0], [2, 3, 0, 1], [2, 3, 1, 0], [3, 0, 1, 2], [3, 0, 2, 1], [3, 1, 0, 2], [3, 1, 2, 0], [3, 2, 0, 1], [3, 2, 1, 0]]
def g0 : Grp := ⟨1, [(s_all, ⟨#[120]⟩)], or1, [[0]]⟩
def g1 : Grp := ⟨1, [(s_some, ⟨#[120]⟩)], or1, [[0]]⟩
def g2 : Grp := ⟨2, [(s_all, ⟨#[120]⟩), (s_all, ⟨#[121]⟩)], or2, [[0, 1], [1, 0]]⟩
def g3 : Grp := ⟨2, [(s_all, ⟨#[120]⟩), (s_some, ⟨#[121]⟩)], or2, [[0, 1], [1, 0]]⟩
def g4 : Grp := ⟨2, [(s_some, ⟨#[120]⟩), (s_all, ⟨#[121]⟩)], or2, [[0, 1], [1, 0]]⟩
def g5 : Grp := ⟨2, [(s_some, ⟨#[120]⟩), (s_some, ⟨#[121]⟩)], or2, [[0, 1], [1, 0]]⟩
def g6 : Grp := ⟨3, [(s_all, ⟨#[120]⟩), (s_all, ⟨#[121]⟩), (s_all, ⟨#[122]⟩)], or3, [[0, 1, 2], [0, 2, 1], [1, 0, 2], [1, 2, 0], [2, 0, 1], [2, 1, 0]]⟩
def g7 : Grp := ⟨3, [(s_all, ⟨#[120]⟩), (s_all, ⟨#[121]⟩), (s_some, ⟨#[122]⟩)], or3, [[0, 1, 2], [0, 2, 1], [1, 0, 2], [1, 2, 0], [2, 0, 1], [2, 1, 0]]⟩
def g8 : Grp := ⟨3, [(s_all, ⟨#[120]⟩), (s_some, ⟨#[121]⟩), (s_all, ⟨#[122]⟩)], or3, [[0, 1, 2], [0, 2, 1], [1, 0, 2], [1, 2, 0], [2, 0, 1], [2, 1, 0]]⟩
def g9 : Grp := ⟨3, [(s_all, ⟨#[120]⟩), (s_some, ⟨#[121]⟩), (s_some, ⟨#[122]⟩)], or3, [[0, 1, 2], [0, 2, 1], [1, 0, 2], [1, 2, 0], [2, 0, 1], [2, 1, 0]]⟩
def g10 : Grp := ⟨3, [(s_some, ⟨#[120]⟩), (s_all, ⟨#[121]⟩), (s_all, ⟨#[122]⟩)], or3, [[0, 1, 2], [0, 2, 1], [1, 0, 2], [1, 2, 0], [2, 0, 1], [2, 1, 0]]⟩
def g11 : Grp := ⟨3, [(s_some, ⟨#[120]⟩), (s_all, ⟨#[121]⟩), (s_some, ⟨#[122]⟩)], or3, [[0, 1, 2], [0, 2, 1], [1, 0, 2], [1, 2, 0], [2, 0, 1], [2, 1, 0]]⟩
def g12 : Grp := ⟨3, [(s_some, ⟨#[120]⟩), (s_some, ⟨#[121]⟩), (s_all, ⟨#[122]⟩)], or3, [[0, 1, 2], [0, 2, 1], [1, 0, 2], [1, 2, 0], [2, 0, 1], [2, 1, 0]]⟩
def g13 : Grp := ⟨3, [(s_some, ⟨#[120]⟩), (s_some, ⟨#[121]⟩), (s_some, ⟨#[122]⟩)], or3, [[0, 1, 2], [0, 2, 1], [1, 0, 2], [1, 2, 0], [2, 0, 1], [2, 1, 0]]⟩
def g14 : Grp := ⟨4, [(s_all, ⟨#[120]⟩), (s_all, ⟨#[121]⟩), (s_all, ⟨#[122]⟩), (s_all, ⟨#[119]⟩)], or4, [[0, 1, 2, 3], [0, 1, 3, 2], [0, 2, 1, 3], [0, 2, 3, 1], [0, 3, 1, 2], [0, 3, 2, 1], [1, 0, 2, 3], [1, 0, 3, 2], [1, 2, 0, 3], [1, 2, 3, 0], [1, 3, 0, 2], [1, 3, 2, 0]]⟩
def g15 : Grp := ⟨4, [(s_all, ⟨#[120]⟩), (s_all, ⟨#[121]⟩), (s_all, ⟨#[122]⟩), (s_all, ⟨#[119]⟩)], or4, [[2, 0, 1, 3], [2, 0, 3, 1], [2, 1, 0, 3], [2, 1, 3, 0], [2, 3, 0, 1], [2, 3, 1, 0], [3, 0, 1, 2], [3, 0, 2, 1], [3, 1, 0, 2], [3, 1, 2, 0], [3, 2, 0, 1], [3, 2, 1, 0]]⟩
def g16 : Grp := ⟨4, [(s_all, ⟨#[120]⟩), (s_all, ⟨#[121]⟩), (s_all, ⟨#[122]⟩), (s_some, ⟨#[119]⟩)], or4, [[0, 1, 2, 3], [0, 1, 3, 2], [0, 2, 1, 3], [0, 2, 3, 1], [0, 3, 1, 2], [0, 3, 2, 1], [1, 0, 2, 3], [1, 0, 3, 2], [1, 2, 0, 3], [1, 2, 3, 0], [1, 3, 0, 2], [1, 3, 2, 0]]⟩
def g17 : Grp := ⟨4, [(s_all, ⟨#[120]⟩), (s_all, ⟨#[121]⟩), (s_all, ⟨#[122]⟩), (s_some, ⟨#[119]⟩)], or4, [[2, 0, 1, 3], [2, 0, 3, 1], [2, 1, 0, 3], [2, 1, 3, 0], [2, 3, 0, 1], [2, 3, 1, 0], [3, 0, 1, 2], [3, 0, 2, 1], [3, 1, 0, 2], [3, 1, 2, 0], [3, 2, 0, 1], [3, 2, 1, 0]]⟩
def g18 : Grp := ⟨4, [(s_all, ⟨#[120]⟩), (s_all, ⟨#[121]⟩), (s_some, ⟨#[122]⟩), (s_all, ⟨#[119]⟩)], or4, [[0, 1, 2, 3], [0, 1, 3, 2], [0, 2, 1, 3], [0, 2, 3, 1], [0, 3, 1, 2], [0, 3, 2, 1], [1, 0, 2, 3], [1, 0, 3, 2], [1, 2, 0, 3], [1, 2, 3, 0], [1, 3, 0, 2], [1, 3, 2, 0]]⟩
def g19 : Grp := ⟨4, [(s_all, ⟨#[120]⟩), (s_all, ⟨#[121]⟩), (s_some, ⟨#[122]⟩), (s_all, ⟨#[119]⟩)], or4, [[2, 0, 1, 3], [2, 0, 3, 1], [2, 1, 0, 3], [2, 1, 3, 0], [2, 3, 0, 1], [2, 3, 1, 0], [3, 0, 1, 2], [3, 0, 2, 1], [3, 1, 0, 2], [3, 1, 2, 0], [3, 2, 0, 1], [3, 2, 1, 0]]⟩
def g20 : Grp := ⟨4, [(s_all, ⟨#[120]⟩), (s_all, ⟨#[121]⟩), (s_some, ⟨#[122]⟩), (s_some, ⟨#[119]⟩)], or4, [[0, 1, 2, 3], [0, 1, 3, 2], [0, 2, 1, 3], [0, 2, 3, 1], [0, 3, 1, 2], [0, 3, 2, 1], [1, 0, 2, 3], [1, 0, 3, 2], [1, 2, 0, 3], [1, 2, 3, 0], [1, 3, 0, 2], [1, 3, 2, 0]]⟩
def g21 : Grp := ⟨4, [(s_all, ⟨#[120]⟩), (s_all, ⟨#[121]⟩), (s_some, ⟨#[122]⟩), (s_some, ⟨#[119]⟩)], or4, [[2, 0, 1, 3], [2, 0, 3, 1], [2, 1, 0, 3], [2, 1, 3, 0], [2, 3, 0, 1], [2, 3, 1, 0], [3, 0, 1, 2], [3, 0, 2, 1], [3, 1, 0, 2], [3, 1, 2, 0], [3, 2, 0, 1], [3, 2, 1, 0]]⟩
def g22 : Grp := ⟨4, [(s_all, ⟨#[120]⟩), (s_some, ⟨#[121]⟩), (s_all, ⟨#[122]⟩), (s_all, ⟨#[119]⟩)], or4, [[0, 1, 2, 3], [0, 1, 3, 2], [0, 2, 1, 3], [0, 2, 3, 1], [0, 3, 1, 2], [0, 3, 2, 1], [1, 0, 2, 3], [1, 0, 3, 2], [1, 2, 0, 3], [1, 2, 3, 0], [1, 3, 0, 2], [1, 3, 2, 0]]⟩
def g23 : Grp := ⟨4, [(s_all, ⟨#[120]⟩), (s_some, ⟨#[121]⟩), (s_all, ⟨#[122]⟩), (s_all, ⟨#[119]⟩)], or4, [[2, 0, 1, 3], [2, 0, 3, 1], [2, 1, 0, 3], [2, 1, 3, 0], [2, 3, 0, 1], [2, 3, 1, 0], [3, 0, 1, 2], [3, 0, 2, 1], [3, 1, 0, 2], [3, 1, 2, 0], [3, 2, 0, 1], [3, 2, 1, 0]]⟩
def g24 : Grp := ⟨4, [(s_all, ⟨#[120]⟩), (s_some, ⟨#[121]⟩), (s_all, ⟨#[122]⟩), (s_some, ⟨#[119]⟩)], or4, [[0, 1, 2, 3], [0, 1, 3, 2], [0, 2, 1, 3], [0, 2, 3, 1], [0, 3, 1, 2], [0, 3, 2, 1], [1, 0, 2, 3], [1, 0, 3, 2], [1, 2, 0, 3], [1, 2, 3, 0], [1, 3, 0, 2], [1, 3, 2, 0]]⟩
def g25 : Grp := ⟨4, [(s_all, ⟨#[120]⟩), (s_some, ⟨#[121]⟩), (s_all, ⟨#[122]⟩), (s_some, ⟨#[119]⟩)], or4, [[2, 0, 1, 3], [2, 0, 3, 1], [2, 1, 0, 3], [2, 1, 3, 0], [2, 3, 0, 1], [2, 3, 1, 0], [3, 0, 1, 2], [3, 0, 2, 1], [3, 1, 0, 2], [3, 1, 2, 0], [3, 2, 0, 1], [3, 2, 1, 0]]⟩
def g26 : Grp := ⟨4, [(s_all, ⟨#[120]⟩), (s_some, ⟨#[121]⟩), (s_some, ⟨#[122]⟩), (s_all, ⟨#[119]⟩)], or4, [[0, 1, 2, 3], [0, 1, 3, 2], [0, 2, 1, 3], [0, 2, 3, 1], [0, 3, 1, 2], [0, 3, 2, 1], [1, 0, 2, 3], [1, 0, 3, 2], [1, 2, 0, 3], [1, 2, 3, 0], [1, 3, 0, 2], [1, 3, 2, 0]]⟩
def g27 : Grp := ⟨4, [(s_all, ⟨#[120]⟩), (s_some, ⟨#[121]⟩), (s_some, ⟨#[122]⟩), (s_all, ⟨#[119]⟩)], or4, [[2, 0, 1, 3], [2, 0, 3, 1], [2, 1, 0, 3], [2, 1, 3, 0], [2, 3, 0, 1], [2, 3, 1, 0], [3, 0, 1, 2], [3, 0, 2, 1], [3, 1, 0, 2], [3, 1, 2, 0], [3, 2, 0, 1], [3, 2, 1, 0]]⟩
def g28 : Grp := ⟨4, [(s_all, ⟨#[120]⟩), (s_some, ⟨#[121]⟩), (s_some, ⟨#[122]⟩), (s_some, ⟨#[119]⟩)], or4, [[0, 1, 2, 3], [0, 1, 3, 2], [0, 2, 1, 3], [0, 2, 3, 1], [0, 3, 1, 2], [0, 3, 2, 1], [1, 0, 2, 3], [1, 0, 3, 2], [1, 2, 0, 3], [1, 2, 3, 0], [1, 3, 0, 2], [1, 3, 2, 0]]⟩
def g29 : Grp := ⟨4, [(s_all, ⟨#[120]⟩), (s_some, ⟨#[121]⟩), (s_some, ⟨#[122]⟩), (s_some, ⟨#[119]⟩)], or4, [[2, 0, 1, 3], [2, 0, 3, 1], [2, 1, 0, 3], [2, 1, 3, 0], [2, 3, 0, 1], [2, 3, 1, 0], [3, 0, 1, 2], [3, 0, 2, 1], [3, 1, 0, 2], [3, 1, 2, 0], [3, 2, 0, 1], [3, 2, 1, 0]]⟩
def g30 : Grp := ⟨4, [(s_some, ⟨#[120]⟩), (s_all, ⟨#[121]⟩), (s_all, ⟨#[122]⟩), (s_all, ⟨#[119]⟩)], or4, [[0, 1, 2, 3], [0, 1, 3, 2], [0, 2, 1, 3], [0, 2, 3, 1], [0, 3, 1, 2], [0, 3, 2, 1], [1, 0, 2, 3], [1, 0, 3, 2], [1, 2, 0, 3], [1, 2, 3, 0], [1, 3, 0, 2], [1, 3, 2, 0]]⟩
def g31 : Grp := ⟨4, [(s_some, ⟨#[120]⟩), (s_all, ⟨#[121]⟩), (s_all, ⟨#[122]⟩), (s_all, ⟨#[119]⟩)], or4, [[2, 0, 1, 3], [2, 0, 3, 1], [2, 1, 0, 3], [2, 1, 3, 0], [2, 3, 0, 1], [2, 3, 1, 0], [3, 0, 1, 2], [3, 0, 2, 1], [3, 1, 0, 2], [3, 1, 2, 0], [3, 2, 0, 1], [3, 2, 1, 0]]⟩
def g32 : Grp := ⟨4, [(s_some, ⟨#[120]⟩), (s_all, ⟨#[121]⟩), (s_all, ⟨#[122]⟩), (s_some, ⟨#[119]⟩)], or4, [[0, 1, 2, 3], [0, 1, 3, 2], [0, 2, 1, 3], [0, 2, 3, 1], [0, 3, 1, 2], [0, 3, 2, 1], [1, 0, 2, 3], [1, 0, 3, 2], [1, 2, 0, 3], [1, 2, 3, 0], [1, 3, 0, 2], [1, 3, 2, 0]]⟩
def g33 : Grp := ⟨4, [(s_some, ⟨#[120]⟩), (s_all, ⟨#[121]⟩), (s_all, ⟨#[122]⟩), (s_some, ⟨#[119]⟩)], or4, [[2, 0, 1, 3], [2, 0, 3, 1], [2, 1, 0, 3], [2, 1, 3, 0], [2, 3, 0, 1], [2, 3, 1, 0], [3, 0, 1, 2], [3, 0, 2, 1], [3, 1, 0, 2], [3, 1, 2, 0], [3, 2, 0, 1], [3, 2, 1, 0]]⟩
def g34 : Grp := ⟨4, [(s_some, ⟨#[120]⟩), (s_all, ⟨#[121]⟩), (s_some, ⟨#[122]⟩), (s_all, ⟨#[119]⟩)], or4, [[0, 1, 2, 3], [0, 1, 3, 2], [0, 2, 1, 3], [0, 2, 3, 1], [0, 3, 1, 2], [0, 3, 2, 1], [1, 0, 2, 3], [1, 0, 3, 2], [1, 2, 0, 3], [1, 2, 3, 0], [1, 3, 0, 2], [1, 3, 2, 0]]⟩
def g35 : Grp := ⟨4, [(s_some, ⟨#[120]⟩), (s_all, ⟨#[121]⟩), (s_some, ⟨#[122]⟩), (s_all, ⟨#[119]⟩)], or4, [[2, 0, 1, 3], [2, 0, 3, 1], [2, 1, 0, 3], [2, 1, 3, 0], [2, 3, 0, 1], [2, 3, 1, 0], [3, 0, 1, 2], [3, 0, 2, 1], [3, 1, 0, 2], [3, 1, 2, 0], [3, 2, 0, 1], [3, 2, 1, 0]]⟩
def g36 : Grp := ⟨4, [(s_some, ⟨#[120]⟩), (s_all, ⟨#[121]⟩), (s_some, ⟨#[122]⟩), (s_some, ⟨#[119]⟩)], or4, [[0, 1, 2, 3], [0, 1, 3, 2], [0, 2, 1, 3], [0, 2, 3, 1], [0, 3, 1, 2], [0, 3, 2, 1], [1, 0, 2, 3], [1, 0, 3, 2], [1, 2, 0, 3], [1, 2, 3, 0], [1, 3, 0, 2], [1, 3, 2, 0]]⟩
def g37 : Grp := ⟨4, [(s_some, ⟨#[120]⟩), (s_all, ⟨#[121]⟩), (s_some, ⟨#[122]⟩), (s_some, ⟨#[119]⟩)], or4, [[2, 0, 1, 3], [2, 0, 3, 1], [2, 1, 0, 3], [2, 1, 3, 0], [2, 3, 0, 1], [2, 3, 1, 0], [3, 0, 1, 2], [3, 0, 2, 1], [3, 1, 0, 2], [3, 1, 2, 0], [3, 2, 0, 1], [3, 2, 1, 0]]⟩
def g38 : Grp := ⟨4, [(s_some, ⟨#[120]⟩), (s_some, ⟨#[121]⟩), (s_all, ⟨#[122]⟩), (s_all, ⟨#[119]⟩)], or4, [[0, 1, 2, 3], [0, 1, 3, 2], [0, 2, 1, 3], [0, 2, 3, 1], [0, 3, 1, 2], [0, 3, 2, 1], [1, 0, 2, 3], [1, 0, 3, 2], [1, 2, 0, 3], [1, 2, 3, 0], [1, 3, 0, 2], [1, 3, 2, 0]]⟩
def g39 : Grp := ⟨4, [(s_some, ⟨#[120]⟩), (s_some, ⟨#[121]⟩), (s_all, ⟨#[122]⟩), (s_all, ⟨#[119]⟩)], or4, [[2, 0, 1, 3], [2, 0, 3, 1], [2, 1, 0, 3], [2, 1, 3, 0], [2, 3, 0, 1], [2, 3, 1, 0], [3, 0, 1, 2], [3, 0, 2, 1], [3, 1, 0, 2], [3, 1, 2, 0], [3, 2, 0, 1], [3, 2, 1, 0]]⟩
def g40 : Grp := ⟨4, [(s_some, ⟨#[120]⟩), (s_some, ⟨#[121]⟩), (s_all, ⟨#[122]⟩), (s_some, ⟨#[119]⟩)], or4, [[0, 1, 2, 3], [0, 1, 3, 2], [0, 2, 1, 3], [0, 2, 3, 1], [0, 3, 1, 2], [0, 3, 2, 1], [1, 0, 2, 3], [1, 0, 3, 2], [1, 2, 0, 3], [1, 2, 3, 0], [1, 3, 0, 2], [1, 3, 2, 0]]⟩
def g41 : Grp := ⟨4, [(s_some, ⟨#[120]⟩), (s_some, ⟨#[121]⟩), (s_all, ⟨#[122]⟩), (s_some, ⟨#[119]⟩)], or4, [[2, 0, 1, 3], [2, 0, 3, 1], [2, 1, 0, 3], [2, 1, 3, 0], [2, 3, 0, 1], [2, 3, 1, 0], [3, 0, 1, 2], [3, 0, 2, 1], [3, 1, 0, 2], [3, 1, 2, 0], [3, 2, 0, 1], [3, 2, 1, 0]]⟩
def g42 : Grp := ⟨4, [(s_some, ⟨#[120]⟩), (s_some, ⟨#[121]⟩), (s_some, ⟨#[122]⟩), (s_all, ⟨#[119]⟩)], or4, [[0, 1, 2, 3], [0, 1, 3, 2], [0, 2, 1, 3], [0, 2, 3, 1], [0, 3, 1, 2], [0, 3, 2, 1], [1, 0, 2, 3], [1, 0, 3, 2], [1, 2, 0, 3], [1, 2, 3, 0], [1, 3, 0, 2], [1, 3, 2, 0]]⟩
def g43 : Grp := ⟨4, [(s_some, ⟨#[120]⟩), (s_some, ⟨#[121]⟩), (s_some, ⟨#[122]⟩), (s_all, ⟨#[119]⟩)], or4, [[2, 0, 1, 3], [2, 0, 3, 1], [2, 1, 0, 3], [2, 1, 3, 0], [2, 3, 0, 1], [2, 3, 1, 0], [3, 0, 1, 2], [3, 0, 2, 1], [3, 1, 0, 2], [3, 1, 2, 0], [3, 2, 0, 1], [3, 2, 1, 0]]⟩
def g44 : Grp := ⟨4, [(s_some, ⟨#[120]⟩), (s_some, ⟨#[121]⟩), (s_some, ⟨#[122]⟩), (s_some, ⟨#[119]⟩)], or4, [[0, 1, 2, 3], [0, 1, 3, 2], [0, 2, 1, 3], [0, 2, 3, 1], [0, 3, 1, 2], [0, 3, 2, 1], [1, 0, 2, 3], [1, 0, 3, 2], [1, 2, 0, 3], [1, 2, 3, 0], [1, 3, 0, 2], [1, 3, 2, 0]]⟩
def g45 : Grp := ⟨4, [(s_some, ⟨#[120]⟩), (s_some, ⟨#[121]⟩), (s_some, ⟨#[122]⟩), (s_some, ⟨#[119]⟩)], or4, [[2, 0, 1, 3], [2, 0, 3, 1], [2, 1, 0, 3], [2, 1, 3, 0], [2, 3, 0, 1], [2, 3, 1, 0], [3, 0, 1, 2], [3, 0, 2, 1], [3, 1, 0, 2], [3, 1, 2, 0], [3, 2, 0, 1], [3, 2, 1, 0]]⟩
def groups : List Grp := [g0, g1, g2, g3, g4, g5, g6, g7, g8, g9, g10, g11, g12, g13, g14, g15, g16, g17, g18, g19, g20, g21, g22, g23, g24, g25, g26, g27, g28, g29, g30, g31, g32, g33, g34, g35, g36, g37, g38, g39, g40, g41, g42, g43, g44, g45]
theorem g0_ok : okG g0 = true := by decide +kernel
theorem g1_ok : okG g1 = true := by decide +kernel
theorem g2_ok : okG g2 = true := by decide +kernel
theorem g3_ok : okG g3 = true := by decide +kernel
theorem g4_ok : okG g4 = true := by decide +kernel
theorem g5_ok : okG g5 = true := by decide +kernel
theorem g6_ok : okG g6 = true := by decide +kernel
theorem g7_ok : okG g7 = true := by decide +kernel
theorem g8_ok : okG g8 = true := by decide +kernel
theorem g9_ok : okG g9 = true := by decide +kernel
theorem g10_ok : okG g10 = true := by decide +kernel
theorem g11_ok : okG g11 = true := by decide +kernel
theorem g12_ok : okG g12 = true := by decide +kernel
theorem g13_ok : okG g13 = true := by decide +kernel
theorem g14_ok : okG g14 = true := by decide +kernel
theorem g15_ok : okG g15 = true := by decide +kernel
theorem g16_ok : okG g16 = true := by decide +kernel
theorem g17_ok : okG g17 = true := by decide +kernel
theorem g18_ok : okG g18 = true := by decide +kernel
theorem g19_ok : okG g19 = true := by decide +kernel
theorem g20_ok : okG g20 = true := by decide +kernel
theorem g21_ok : okG g21 = true := by decide +kernel
theorem g22_ok : okG g22 = true := by decide +kernel
theorem g23_ok : okG g23 = true := by decide +kernel
theorem g24_ok : okG g24 = true := by decide +kernel
theorem g25_ok : okG g25 = true := by decide +kernel
theorem g26_ok : okG g26 = true := by decide +kernel
theorem g27_ok : okG g27 = true := by decide +kernel
theorem g28_ok : okG g28 = true := by decide +kernel
theorem g29_ok : okG g29 = true := by decide +kernel
theorem g30_ok : okG g30 = true := by decide +kernel
theorem g31_ok : okG g31 = true := by decide +kernel
theorem g32_ok : okG g32 = true := by decide +kernel
theorem g33_ok : okG g33 = true := by decide +kernel
theorem g34_ok : okG g34 = true := by decide +kernel
theorem g35_ok : okG g35 = true := by decide +kernel
theorem g36_ok : okG g36 = true := by decide +kernel
theorem g37_ok : okG g37 = true := by decide +kernel
theorem g38_ok : okG g38 = true := by decide +kernel
theorem g39_ok : okG g39 = true := by decide +kernel
theorem g40_ok : okG g40 = true := by decide +kernel
theorem g41_ok : okG g41 = true := by decide +kernel
theorem g42_ok : okG g42 = true := by decide +kernel
theorem g43_ok : okG g43 = true := by decide +kernel
theorem g44_ok : okG g44 = true := by decide +kernel
theorem g45_ok : okG g45 = true := by decide +kernel
theorem groups_ok : ∀ g ∈ groups, okG g = true := by
  intro g h
  simp only [groups, List.mem_cons, List.not_mem_nil, or_false] at h
  rcases h with rfl | rfl | rfl | rfl | rfl | rfl | rfl | rfl | rfl | rfl | rfl | rfl | rfl | rfl | rfl | rfl | rfl | rfl | rfl | rfl | rfl | rfl | rfl | rfl | rfl | rfl | rfl | rfl | rfl | rfl | rfl | rfl | rfl | rfl | rfl | rfl | rfl | rfl | rfl | rfl | rfl | rfl | rfl | rfl | rfl | rfl
  · exact g0_ok
  · exact g1_ok
  · exact g2_ok
  · exact g3_ok
  · exact g4_ok
  · exact g5_ok
  · exact g6_ok
  · exact g7_ok
  · exact g8_ok
  · exact g9_ok
  · exact g10_ok
  · exact g11_ok
  · exact g12_ok
  · exact g13_ok
  · exact g14_ok
  · exact g15_ok
  · exact g16_ok
  · exact g17_ok
  · exact g18_ok
  · exact g19_ok
  · exact g20_ok
  · exact g21_ok
  · exact g22_ok
  · exact g23_ok
  · exact g24_ok
  · exact g25_ok
  · exact g26_ok
  · exact g27_ok
  · exact g28_ok
  · exact g29_ok
  · exact g30_ok
  · exact g31_ok
  · exact g32_ok
  · exact g33_ok
  · exact g34_ok
  · exact g35_ok
  · exact g36_ok
  · exact g37_ok
  · exact g38_ok
  · exact g39_ok
  · exact g40_ok
  · exact g41_ok
  · exact g42_ok
  · exact g43_ok
  · exact g44_ok
  · exact g45_ok
def preM : M (Int × List (Str × Str) × List (Option Int) × List (List Int) × List Int) := (((askM (4 : Int))) >>= fun v2 => .ret ((1 : Int) + v2)) >>= fun count_v3 => ((rgM 0 count_v3) >>= fun v9 => (lcM (fun x4 => (M.ret true)) (fun x4 => ((((askM (2 : Int))) >>= fun v6 => (ixM [s_all, s_some] v6)) >>= fun v7 => (ixS s_xyzw x4) >>= fun v8 => .ret (v7, v8)))) v9) >>= fun phrases_v10 => (M.ret (phrases_v10.map (fun x11 => (none : (Option Int))))) >>= fun hosts_v12 => ((t_orders_of phrases_v10 hosts_v12)) >>= fun orders_v13 => (((askM ((orders_v13.length : Nat) : Int))) >>= fun v15 => (ixM orders_v13 v15)) >>= fun order_v16 => .ret (count_v3, phrases_v10, hosts_v12, orders_v13, order_v16)
theorem law_pre : t_law = preM >>= fun b => t_law_r5 b.1 b.2.1 b.2.2.1 b.2.2.2.1 b.2.2.2.2 := by
  unfold t_law preM t_law_r3 t_law_r4
  simp only [bind_assoc, M.bind_ret]
def known (b : Int × List (Str × Str) × List (Option Int) × List (List Int) × List Int) : Bool := groups.any fun g => decide (b.1 = g.count) && (decide (b.2.1 = g.phrases) && (decide (b.2.2.1 = g.hosts) && (decide (b.2.2.2.1 = g.orders) && memT b.2.2.2.2 g.part)))
theorem pre_known : preM.all known = true := by decide +kernel
theorem t_math : t_law.wp (· = true) := by
  rw [law_pre]
  refine M.wp_bind.mpr (M.wp_mono (M.all_wp pre_known) fun b hb => ?_)
  obtain ⟨g, hg, h⟩ := List.any_eq_true.mp hb
  simp only [Bool.and_eq_true, decide_eq_true_eq, memT_eq] at h
  obtain ⟨h1, h2, h3, h4, h5⟩ := h
  have ok := groups_ok g hg
  rw [h1, h2, h3, h4]
  exact M.all_wp (p := id) (List.all_eq_true.mp ok _ h5)
theorem math : (b_law 40 (none :: some (.val .stt) :: List.replicate 18 none)).wp fun r => r.1 = .rt (.bl true) :=
  (rf_law 36).run _ (M.wp_mono t_math fun a ha d hd => by
    subst ha
    rcases hd with hd | ⟨_, hd⟩
    · exact hd
    · cases hd)
end K84

set_option Elab.async false
set_option linter.all false
set_option maxRecDepth 100000
set_option maxHeartbeats 0
namespace K84
open PySem PySem.Spec L2 DL
end K84
open PySem PySem.W PySem.Calls PyProof.Rows
theorem PySem.Challenge.cw_wordkinds_k84_orders_that_say_the_same_holds : PySem.Challenge.rw_wordkinds_k84_orders_that_say_the_same.Holds := by
  w_on; o_law
  refine HandSHeadRun.head_any (r := OpenLaw.row PySem.Challenge.rw_wordkinds_k84_orders_that_say_the_same) (q := view (OpenLaw.row PySem.Challenge.rw_wordkinds_k84_orders_that_say_the_same).prog [28]) (H := K84.hk) (ob := K84.ob) (M := 4000) (loose := K84.loose) (d := HandSHeadRun.topDef (OpenLaw.row PySem.Challenge.rw_wordkinds_k84_orders_that_say_the_same).prog 28) (kwd := []) K84.ob_eq
    (by kernel_rfl) (fun s => by kernel_rfl) K84.run (by kernel_rfl) (by kernel_rfl) (by kernel_rfl) (by rfl) (by first | assumption | decide +kernel) (by decide +kernel) ⟨rfl, rfl, rfl, rfl, rfl, by decide +kernel⟩ ?hw ?hc
  case hw => w_witness2
  case hc =>
    refine L2.walk_ofE (l := PySem.Challenge.rw_wordkinds_k84_orders_that_say_the_same) (n := 63) (k := 42) (x := "script") (CX := L2.CX0) rfl (by decide) (by kernel_rfl) ⟨rfl, by decide, by decide⟩ ?F (fun _ _ _ _ z => z)
    intro w mg fa h Y G hmg0
    obtain ⟨K, KX, c⟩ := Y
    have hmg : mg ("law" : PySem.Str) = some (.ref fa) := by
      have e : (HandSHeadRun.topDef (OpenLaw.row PySem.Challenge.rw_wordkinds_k84_orders_that_say_the_same).prog 28).name = ("law" : PySem.Str) := by kernel_rfl
      rw [← e]
      exact hmg0
    obtain ⟨fd, hb, hF⟩ := K84.facts (P := (PySem.Challenge.rw_wordkinds_k84_orders_that_say_the_same).prog) (w := w) KX G hmg c K84.math
    exact ⟨K, fd, DL.spLawD K, KX, hb, fun H a ns hl _ hS => ⟨a, ns, rfl, hS, hl, fun _ => rfl⟩, hF⟩

