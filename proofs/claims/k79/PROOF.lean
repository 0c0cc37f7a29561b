import PyProof.Rows.All
import HandS.ForMost
import HandS.Deep
import HandS.TupAny
import HandS.Style
import HandS.Conv
import HandS.Flow
import HandS.SortOrd
import HandS.SortInts
import KE.LtData
import KE.SortData
import PyProof.DictUpdate
import PyProof.DictDisplay
import HandS.More
import HandS.Defaults
import HandS.Head0
import HandS.Head1
import HandS.Head2
import HandS.HeadEnd
import HandS.HeadHook1
import HandS.HeadHook2
import PySem.Challenge.RW_wordkinds_k79_prefixes_of_all_and_some
set_option Elab.async false
set_option linter.all false
set_option maxRecDepth 100000
/-! DL1: values as trees, results with draws, what stands in the heap for a tree, the judgements by trees. -/
namespace DL
open PySem PySem.Spec L2
open PyProof.Rows hiding St

/-! ### results: a value, nothing told, or a draw from 0 to below k -/
inductive M (α : Type) where
  | ret (a : α)
  | fail
  | ask (k : Int) (f : Int → M α)
namespace M
def bind {α β : Type} : M α → (α → M β) → M β
  | .ret a, g => g a
  | .fail, _ => .fail
  | .ask k f, g => .ask k fun i => (f i).bind g
instance : Monad M where
  pure := M.ret
  bind := M.bind
def wp {α : Type} : M α → (α → Prop) → Prop
  | .ret a, Q => Q a
  | .fail, _ => False
  | .ask k f, Q => (0 < k ∧ k < 2 ^ 30) ∧ ∀ r, 0 ≤ r → r < k → (f r).wp Q
theorem wp_bind {α β : Type} {m : M α} {g : α → M β} {Q : β → Prop} : (m.bind g).wp Q ↔ m.wp fun a => (g a).wp Q := by
  induction m with
  | ret a => exact Iff.rfl
  | fail => exact Iff.rfl
  | ask k f ih =>
    show ((_ ∧ _) ∧ _) ↔ ((_ ∧ _) ∧ _)
    constructor
    · exact fun ⟨a, b⟩ => ⟨a, fun r h1 h2 => (ih r).mp (b r h1 h2)⟩
    · exact fun ⟨a, b⟩ => ⟨a, fun r h1 h2 => (ih r).mpr (b r h1 h2)⟩
theorem wp_mono {α : Type} {m : M α} {Q Q' : α → Prop} (h : m.wp Q) (hq : ∀ a, Q a → Q' a) : m.wp Q' := by
  induction m with
  | ret a => exact hq a h
  | fail => exact h
  | ask k f ih => exact ⟨h.1, fun r h1 h2 => ih r (h.2 r h1 h2)⟩
theorem wpb {α β : Type} {m : M α} {g : α → M β} {Q : β → Prop} (h : (m >>= g).wp Q) : m.wp fun a => (g a).wp Q := wp_bind.mp h
@[simp] theorem bind_ret {α β : Type} (a : α) (g : α → M β) : (M.ret a >>= g) = g a := rfl
@[simp] theorem bind_fail {α β : Type} (g : α → M β) : ((M.fail : M α) >>= g) = M.fail := rfl
@[simp] theorem pure_ret {α : Type} (a : α) : (pure a : M α) = M.ret a := rfl
theorem bind_assoc' {α β γ : Type} (m : M α) (g : α → M β) (h : β → M γ) : (m.bind g).bind h = m.bind fun a => (g a).bind h := by
  induction m with
  | ret a => rfl
  | fail => rfl
  | ask k f ih => show M.ask k _ = M.ask k _; congr 1; funext i; exact ih i
theorem bind_pure' {α : Type} (m : M α) : m.bind M.ret = m := by
  induction m with
  | ret a => rfl
  | fail => rfl
  | ask k f ih => show M.ask k _ = M.ask k _; congr 1; funext i; exact ih i
instance : LawfulMonad M := LawfulMonad.mk' M (id_map := fun x => bind_pure' x) (pure_bind := fun _ _ => rfl) (bind_assoc := fun m g h => bind_assoc' m g h)
theorem wp_ret {α : Type} {a : α} {Q : α → Prop} : (M.ret a).wp Q ↔ Q a := Iff.rfl
theorem wp_pure {α : Type} {a : α} {Q : α → Prop} : (pure a : M α).wp Q ↔ Q a := Iff.rfl
/-- a result of which something is asked -/
def guard (b : Bool) : M Unit := if b then .ret () else .fail
theorem wp_guard {b : Bool} {Q : Unit → Prop} (h : (guard b).wp Q) : b = true ∧ Q () := by
  cases b with
  | true => exact ⟨rfl, h⟩
  | false => exact h.elim
def opt {α : Type} : Option α → M α
  | some a => .ret a
  | none => .fail
theorem wp_opt {α : Type} {o : Option α} {Q : α → Prop} (h : (opt o).wp Q) : ∃ a, o = some a ∧ Q a := by
  cases o with
  | some a => exact ⟨a, rfl, h⟩
  | none => exact h.elim
end M

/-! ### trees -/
inductive D where
  | non | bl (b : Bool) | int (i : Int) | str (x : Str) | tup (xs : List D) | lst (xs : List D) | dct (t : Bool) (kvs : List (D × D)) | stt
/-- a list, a dict: what may be changed -/
def D.mut : D → Bool
  | .lst _ => true
  | .dct _ _ => true
  | _ => false

/-- where the law's own state stands: the pair, its list of cells -/
structure SA where
  sa : Addr
  ca : Addr

/-- a dict's key, an int or a text -/
def KeyD (d : D) (k : Key) : Prop := (∃ i, d = .int i ∧ k = .inl i) ∨ ∃ x, d = .str x ∧ k = .inr x ∧ PyData.strOk x = true ∧ x.length ≤ sizeLine
def KeysD : List D → List Key → Prop
  | [], [] => True
  | d :: ds, k :: ks => KeyD d k ∧ KeysD ds ks
  | _, _ => False
mutual
/-- v, read in F, is the tree d -/
inductive Rp (S : SA) (F : Hp) : D → V → Prop
  | non : Rp S F .non .non
  | bl (b : Bool) : Rp S F (.bl b) (.bl b)
  | int (i : Int) : Rp S F (.int i) (.int i)
  | str (x : Str) : PyData.strOk x = true → x.length ≤ sizeLine → Rp S F (.str x) (.str x)
  | tup {a : Addr} {xs : List D} {vs : List V} : F a = some (.tup vs) → RpL S F xs vs → vs.length ≤ sizeLine → Rp S F (.tup xs) (.ref a)
  | lst {a : Addr} {xs : List D} {vs : List V} : F a = some (.lst vs) → RpL S F xs vs → vs.length ≤ sizeLine → Rp S F (.lst xs) (.ref a)
  | dctK {a : Addr} {o : Obj} {kvs : List (D × D)} {es : List (Key × V)} : F a = some (.frz o (.dK es)) → RpK S F kvs es → es.length ≤ sizeLine → Rp S F (.dct false kvs) (.ref a)
  | dctT {a : Addr} {o : Obj} {kvs : List (D × D)} {es : List (List Key × V)} : F a = some (.frz o (.dT es)) → RpT S F kvs es → es.length ≤ sizeLine → Rp S F (.dct true kvs) (.ref a)
  | stt : Rp S F .stt (.ref S.sa)
inductive RpL (S : SA) (F : Hp) : List D → List V → Prop
  | nil : RpL S F [] []
  | cons {d : D} {ds : List D} {v : V} {vs : List V} : Rp S F d v → RpL S F ds vs → RpL S F (d :: ds) (v :: vs)
inductive RpK (S : SA) (F : Hp) : List (D × D) → List (Key × V) → Prop
  | nil : RpK S F [] []
  | cons {kd d : D} {kvs : List (D × D)} {k : Key} {v : V} {es : List (Key × V)} : KeyD kd k → Rp S F d v → RpK S F kvs es → RpK S F ((kd, d) :: kvs) ((k, v) :: es)
inductive RpT (S : SA) (F : Hp) : List (D × D) → List (List Key × V) → Prop
  | nil : RpT S F [] []
  | cons {kds : List D} {d : D} {kvs : List (D × D)} {ks : List Key} {v : V} {es : List (List Key × V)} : KeysD kds ks → Rp S F d v → RpT S F kvs es → RpT S F ((.tup kds, d) :: kvs) ((ks, v) :: es)
end
/-- F' holds what F holds -/
def Sub (F F' : Hp) : Prop := ∀ a o, F a = some o → F' a = some o
theorem Sub.refl (F : Hp) : Sub F F := fun _ _ h => h
theorem Sub.trans {F F1 F2 : Hp} (a : Sub F F1) (b : Sub F1 F2) : Sub F F2 := fun c o h => b c o (a c o h)
theorem Sub.no {F F' : Hp} (s : Sub F F') {a : Addr} (h : F' a = none) : F a = none := by
  cases q : F a with
  | none => rfl
  | some o => rw [s a o q] at h; cases h
theorem sub_upd {F : Hp} {a : Addr} {o : HO} (h : F a = none) : Sub F (upd F a o) := fun b x e => by rw [upd_ne (ne_of_none e h)]; exact e
section
variable {S : SA} {F F' : Hp}
mutual
theorem Rp.mono (s : Sub F F') : ∀ {d : D} {v : V}, Rp S F d v → Rp S F' d v
  | _, _, .non => .non
  | _, _, .bl b => .bl b
  | _, _, .int i => .int i
  | _, _, .str x h z => .str x h z
  | _, _, .tup h r z => .tup (s _ _ h) (RpL.mono s r) z
  | _, _, .lst h r z => .lst (s _ _ h) (RpL.mono s r) z
  | _, _, .dctK h r z => .dctK (s _ _ h) (RpK.mono s r) z
  | _, _, .dctT h r z => .dctT (s _ _ h) (RpT.mono s r) z
  | _, _, .stt => .stt
theorem RpL.mono (s : Sub F F') : ∀ {ds : List D} {vs : List V}, RpL S F ds vs → RpL S F' ds vs
  | _, _, .nil => .nil
  | _, _, .cons h t => .cons (Rp.mono s h) (RpL.mono s t)
theorem RpK.mono (s : Sub F F') : ∀ {ds : List (D × D)} {vs : List (Key × V)}, RpK S F ds vs → RpK S F' ds vs
  | _, _, .nil => .nil
  | _, _, .cons k h t => .cons k (Rp.mono s h) (RpK.mono s t)
theorem RpT.mono (s : Sub F F') : ∀ {ds : List (D × D)} {vs : List (List Key × V)}, RpT S F ds vs → RpT S F' ds vs
  | _, _, .nil => .nil
  | _, _, .cons k h t => .cons k (Rp.mono s h) (RpT.mono s t)
end
theorem RpL.len : ∀ {ds : List D} {vs : List V}, RpL S F ds vs → ds.length = vs.length
  | _, _, .nil => rfl
  | _, _, .cons _ t => congrArg (· + 1) (RpL.len t)
theorem RpL.get : ∀ {ds : List D} {vs : List V} {i : Nat} {d : D}, RpL S F ds vs → ds[i]? = some d → ∃ v, vs[i]? = some v ∧ Rp S F d v
  | _, _, _, _, .nil, e => by simp at e
  | _, _, 0, _, .cons r _, e => by simp at e; subst e; exact ⟨_, rfl, r⟩
  | _, _, i + 1, d, .cons _ t, e => by
    obtain ⟨u, h1, h2⟩ := RpL.get (i := i) (d := d) t (by simpa using e)
    exact ⟨u, by simpa using h1, h2⟩
theorem RpL.append : ∀ {ds es : List D} {vs us : List V}, RpL S F ds vs → RpL S F es us → RpL S F (ds ++ es) (vs ++ us)
  | _, _, _, _, .nil, s => s
  | _, _, _, _, .cons r t, s => .cons r (RpL.append t s)
theorem RpL.take : ∀ {ds : List D} {vs : List V} (n : Nat), RpL S F ds vs → RpL S F (ds.take n) (vs.take n)
  | _, _, 0, _ => .nil
  | _, _, _ + 1, .nil => .nil
  | _, _, n + 1, .cons r t => .cons r (RpL.take n t)
theorem RpL.drop : ∀ {ds : List D} {vs : List V} (n : Nat), RpL S F ds vs → RpL S F (ds.drop n) (vs.drop n)
  | _, _, 0, r => r
  | _, _, _ + 1, .nil => .nil
  | _, _, n + 1, .cons _ t => RpL.drop n t
theorem RpL.set {d : D} {v : V} (r : Rp S F d v) : ∀ {ds : List D} {vs : List V} (i : Nat), RpL S F ds vs → RpL S F (ds.set i d) (vs.set i v)
  | _, _, _, .nil => .nil
  | _, _, 0, .cons _ t => .cons r t
  | _, _, i + 1, .cons q t => .cons q (RpL.set r i t)
theorem RpL.eraseIdx : ∀ {ds : List D} {vs : List V} (i : Nat), RpL S F ds vs → RpL S F (ds.eraseIdx i) (vs.eraseIdx i)
  | _, _, _, .nil => .nil
  | _, _, 0, .cons _ t => t
  | _, _, i + 1, .cons q t => .cons q (RpL.eraseIdx i t)
theorem RpL.reverse : ∀ {ds : List D} {vs : List V}, RpL S F ds vs → RpL S F ds.reverse vs.reverse
  | _, _, .nil => .nil
  | _, _, .cons r t => by rw [List.reverse_cons, List.reverse_cons]; exact RpL.append (RpL.reverse t) (.cons r .nil)
end

/-! ### the frame's names by trees: a value that stands still, a list of this frame's own, or one that is only looked at -/
inductive Sl where
  | val (d : D)
  | own (d : D)
  | bor (d : D)
abbrev DEnv := List (Option Sl)
/-- what stands at p, its own list, is d -/
def OwnR (S : SA) (F H : Hp) (p : Addr) : D → Prop
  | .lst xs => ∃ vs, H p = some (.lst vs) ∧ RpL S F xs vs ∧ vs.length ≤ sizeLine
  | .dct false kvs => ∃ es, H p = some (.dK es) ∧ RpK S F kvs es ∧ es.length ≤ sizeLine
  | .dct true kvs => ∃ es, H p = some (.dT es) ∧ RpT S F kvs es ∧ es.length ≤ sizeLine
  | _ => False
def BorR (S : SA) (G F : Hp) (d : D) (v : V) : Prop := Rp S F d v ∨ ∃ a, v = .ref a ∧ OwnR S F G a d
def SlotR (S : SA) (G F H : Hp) (σ : L2.St) (i : Nat) : Sl → Prop
  | .val d => ∃ v, σ[i]? = some (some v) ∧ Rp S F d v
  | .own d => ∃ a, σ[i]? = some (some (.ref a)) ∧ G a = none ∧ a ≠ S.sa ∧ a ≠ S.ca ∧ OwnR S F H a d
  | .bor d => ∃ v, σ[i]? = some (some v) ∧ BorR S G F d v
/-- the law's own state stands and may be turned -/
def StOk (S : SA) (H : Hp) : Prop := S.sa ≠ S.ca ∧ ∃ (n : Nat) (cs : List Int), H S.sa = some (.lst [.int n, .ref S.ca]) ∧ H S.ca = some (.lst (cs.map V.int)) ∧ 0 < cs.length
structure Good (S : SA) (G F : Hp) (σ : L2.St) (H : Hp) (env : DEnv) : Prop where
  kp : Sub G H
  fg : Sub F G
  st : StOk S H
  ns : G S.sa = none
  nc : G S.ca = none
  len : σ.length = env.length
  slot : ∀ (i : Nat) (sl : Sl), env[i]? = some (some sl) → SlotR S G F H σ i sl
  dist : ∀ (i j : Nat) (di dj : D) (a : Addr), env[i]? = some (some (.own di)) → env[j]? = some (some (.own dj)) → σ[i]? = some (some (.ref a)) → σ[j]? = some (some (.ref a)) → i = j
/-- more is kept, more may be read; what may be read now and could not was not kept before -/
structure Ext (G F G' F' : Hp) : Prop where
  g : Sub G G'
  f : Sub F F'
  n : ∀ a, F a = none → G a ≠ none → F' a = none
theorem Ext.refl (G F : Hp) : Ext G F G F := ⟨Sub.refl _, Sub.refl _, fun _ h _ => h⟩
theorem Ext.trans {G F G1 F1 G2 F2 : Hp} (a : Ext G F G1 F1) (b : Ext G1 F1 G2 F2) : Ext G F G2 F2 :=
  ⟨a.g.trans b.g, a.f.trans b.f, fun c h h' => b.n c (a.n c h h') fun z => h' (a.g.no z)⟩

/-- v is d, as it stands: still, or at a name of this frame -/
def RdB (S : SA) (F : Hp) (σ : L2.St) (env : DEnv) (d : D) (v : V) : Prop := Rp S F d v ∨ ∃ i : Nat, (env[i]? = some (some (.own d)) ∨ env[i]? = some (some (.bor d))) ∧ σ[i]? = some (some v)
def FreshR (S : SA) (G F : Hp) (σ : L2.St) (H : Hp) (env : DEnv) (p : Addr) (d : D) : Prop :=
  G p = none ∧ p ≠ S.sa ∧ p ≠ S.ca ∧ (∀ (i : Nat) (di : D), env[i]? = some (some (.own di)) → σ[i]? ≠ some (some (.ref p))) ∧ OwnR S F H p d

def Post (S : SA) (G F : Hp) (σ : L2.St) (env : DEnv) (Q : VK) (d : D) : Prop := ∀ v G' F' H', Ext G F G' F' → Good S G' F' σ H' env → Rp S F' d v → Q v H'
def PostB (S : SA) (G F : Hp) (σ : L2.St) (env : DEnv) (Q : VK) (d : D) : Prop := ∀ v G' F' H', Ext G F G' F' → Good S G' F' σ H' env → RdB S F' σ env d v → Q v H'
def PostF (S : SA) (G F : Hp) (σ : L2.St) (env : DEnv) (Q : VK) (d : D) : Prop := ∀ p G' F' H', Ext G F G' F' → Good S G' F' σ H' env → FreshR S G' F' σ H' env p d → Q (.ref p) H'

abbrev DE := DEnv → M D
def TE_ (S : SA) (m : DE) : TE := fun σ H Q => ∃ G F env, Good S G F σ H env ∧ (m env).wp (Post S G F σ env Q)
def TB_ (S : SA) (m : DE) : TE := fun σ H Q => ∃ G F env, Good S G F σ H env ∧ (m env).wp (PostB S G F σ env Q)
def TF_ (S : SA) (m : DE) : TE := fun σ H Q => ∃ G F env, Good S G F σ H env ∧ (m env).wp (PostF S G F σ env Q)
def QE (S : SA) (X : Cx) (e : Expr) (m : DE) : Prop := PE X e (TE_ S m)
def QB (S : SA) (X : Cx) (e : Expr) (m : DE) : Prop := PE X e (TB_ S m)
def QF (S : SA) (X : Cx) (e : Expr) (m : DE) : Prop := PE X e (TF_ S m)

theorem pe_weak {X : Cx} {e : Expr} {t t' : TE} (h : PE X e t) (w : ∀ σ H Q, t' σ H Q → t σ H Q) : PE X e t' := ⟨fun pins s σ H Q I q => h.run pins s σ H Q I (w σ H Q q)⟩
theorem pt_weak {X : Cx} {e : Expr} {t t' : TT} (h : PT X e t) (w : ∀ σ H Q, t' σ H Q → t σ H Q) : PT X e t' := ⟨fun pins s σ H Q I q => h.run pins s σ H Q I (w σ H Q q)⟩
theorem pa_weak {X : Cx} {es : List Expr} {t t' : TA} (h : PA X es t) (w : ∀ σ H Q, t' σ H Q → t σ H Q) : PA X es t' := ⟨fun pos pins s σ H Q I q => h.run pos pins s σ H Q I (w σ H Q q)⟩
theorem ps_weak {X : Cx} {st : Stmt} {t t' : TS} (h : PS X st t) (w : ∀ D σ H, t' D σ H → t D σ H) : PS X st t' := ⟨fun pins s σ H D I q => h.run pins s σ H D I (w D σ H q)⟩
theorem pss_weak {X : Cx} {st : List Stmt} {t t' : TS} (h : PSs X st t) (w : ∀ D σ H, t' D σ H → t D σ H) : PSs X st t' := ⟨fun pins s σ H D I q => h.run pins s σ H D I (w D σ H q)⟩
theorem pg_weak {X : Cx} {e : Expr} {t t' : TG} (h : PG X e t) (w : ∀ v σ H Q, t' v σ H Q → t v σ H Q) : PG X e t' := ⟨fun pins s σ H v u Q I r q => h.run pins s σ H v u Q I r (w v σ H Q q)⟩
theorem pi_weak {X : Cx} {tg e : Expr} {t t' : TI} (h : PI X tg e t) (w : ∀ σ H R, t' σ H R → t σ H R) : PI X tg e t' := ⟨fun pins s σ H R I q => h.run pins s σ H R I (w σ H R q)⟩

section
variable {S : SA} {G F G' F' H H' : Hp} {σ : L2.St} {env : DEnv} {d : D} {v : V} {p : Addr} {Q : VK}
theorem Good.no (g : Good S G F σ H env) {a : Addr} (h : H a = none) : G a = none := g.kp.no h
theorem Good.fsa (g : Good S G F σ H env) : F S.sa = none := g.fg.no g.ns
theorem Good.fca (g : Good S G F σ H env) : F S.ca = none := g.fg.no g.nc
theorem Good.fh (g : Good S G F σ H env) : Sub F H := g.fg.trans g.kp
/-- a value's object stands in the heap -/
theorem ownR_mono {Ha Hb : Hp} (s : Sub F F') (hp : ∀ o, Ha p = some o → Hb p = some o) : ∀ {d : D}, OwnR S F Ha p d → OwnR S F' Hb p d
  | .lst xs, ⟨vs, h, r, z⟩ => ⟨vs, hp _ h, r.mono s, z⟩
  | .dct false xs, ⟨vs, h, r, z⟩ => ⟨vs, hp _ h, r.mono s, z⟩
  | .dct true xs, ⟨vs, h, r, z⟩ => ⟨vs, hp _ h, r.mono s, z⟩
  | .non, h => h.elim
  | .bl _, h => h.elim
  | .int _, h => h.elim
  | .str _, h => h.elim
  | .tup _, h => h.elim
  | .stt, h => h.elim
theorem BorR.mono {G' : Hp} (sg : Sub G G') (s : Sub F F') (h : BorR S G F d v) : BorR S G' F' d v := by
  rcases h with h | ⟨a, e, h⟩
  · exact .inl (h.mono s)
  · exact .inr ⟨a, e, ownR_mono s (fun o z => sg _ _ z) h⟩
theorem ownR_some : ∀ {d : D}, OwnR S F H p d → ∃ o, H p = some o
  | .lst xs, ⟨vs, h, r, z⟩ => ⟨_, h⟩
  | .dct false xs, ⟨vs, h, r, z⟩ => ⟨_, h⟩
  | .dct true xs, ⟨vs, h, r, z⟩ => ⟨_, h⟩
  | .non, h => h.elim
  | .bl _, h => h.elim
  | .int _, h => h.elim
  | .str _, h => h.elim
  | .tup _, h => h.elim
  | .stt, h => h.elim
theorem ownR_mut : ∀ {d : D}, OwnR S F H p d → d.mut = true
  | .lst xs, _ => rfl
  | .dct false xs, _ => rfl
  | .dct true xs, _ => rfl
  | .non, h => h.elim
  | .bl _, h => h.elim
  | .int _, h => h.elim
  | .str _, h => h.elim
  | .tup _, h => h.elim
  | .stt, h => h.elim
/-- what stands at p from now on stands still: a list as it is, a dict locked -/
theorem ownR_frz : ∀ {d : D}, F p = none → OwnR S F H p d → (∃ o, H p = some o ∧ Rp S (upd F p o) d (.ref p)) ∨ ∃ u, H p = some u ∧ Mut (some u) ∧ ∀ od, Rp S (upd F p (.frz od u)) d (.ref p)
  | .lst xs, n, ⟨vs, h, r, z⟩ => .inl ⟨_, h, .lst upd_same (r.mono (sub_upd n)) z⟩
  | .dct false xs, n, ⟨vs, h, r, z⟩ => .inr ⟨_, h, trivial, fun od => .dctK upd_same (r.mono (sub_upd n)) z⟩
  | .dct true xs, n, ⟨vs, h, r, z⟩ => .inr ⟨_, h, trivial, fun od => .dctT upd_same (r.mono (sub_upd n)) z⟩
  | .non, _, h => h.elim
  | .bl _, _, h => h.elim
  | .int _, _, h => h.elim
  | .str _, _, h => h.elim
  | .tup _, _, h => h.elim
  | .stt, _, h => h.elim
/-- the heap grows by a new object at p (or one that is nobody's), all else stands -/
theorem Good.grow (g : Good S G F σ H env) (hk : Sub H H') : Good S G F σ H' env :=
  ⟨g.kp.trans hk, g.fg, ⟨g.st.1, let ⟨n, cs, h1, h2, h3⟩ := g.st.2; ⟨n, cs, hk _ _ h1, hk _ _ h2, h3⟩⟩, g.ns, g.nc, g.len, fun i sl e => by
    have q := g.slot i sl e
    cases sl with
    | val d => exact q
    | bor d => exact q
    | own d =>
      obtain ⟨a, h1, h2, h3, h4, h5⟩ := q
      exact ⟨a, h1, h2, h3, h4, ownR_mono (Sub.refl _) (fun o z => hk _ _ z) h5⟩, g.dist⟩
/-- .. and is from now on kept and read -/
theorem Good.frz {o : HO} (g : Good S G F σ H env) (hp : H p = some o) (n : G p = none) (n1 : p ≠ S.sa) (n2 : p ≠ S.ca) (hs : ∀ (i : Nat) (di : D), env[i]? = some (some (.own di)) → σ[i]? ≠ some (some (.ref p))) :
    Good S (upd G p o) (upd F p o) σ H env ∧ Ext G F (upd G p o) (upd F p o) := by
  have nf : F p = none := g.fg.no n
  refine ⟨⟨fun a u e => ?_, fun a u e => ?_, g.st, ?_, ?_, g.len, fun i sl e => ?_, g.dist⟩, ⟨sub_upd n, sub_upd nf, fun a h h' => ?_⟩⟩
  · by_cases z : a = p
    · subst z; rw [upd_same] at e; cases e; exact hp
    · rw [upd_ne z] at e; exact g.kp a u e
  · by_cases z : a = p
    · subst z; rw [upd_same] at e ⊢; exact e
    · rw [upd_ne z] at e ⊢; exact g.fg a u e
  · rw [upd_ne n1.symm]; exact g.ns
  · rw [upd_ne n2.symm]; exact g.nc
  · have q := g.slot i sl e
    cases sl with
    | val d =>
      obtain ⟨v, h1, h2⟩ := q
      exact ⟨v, h1, h2.mono (sub_upd nf)⟩
    | bor d =>
      obtain ⟨v, h1, h2⟩ := q
      exact ⟨v, h1, h2.mono (sub_upd n) (sub_upd nf)⟩
    | own d =>
      obtain ⟨a, h1, h2, h3, h4, h5⟩ := q
      have na : a ≠ p := fun z => hs i d e (by rw [h1, z])
      exact ⟨a, h1, by rw [upd_ne na]; exact h2, h3, h4, ownR_mono (sub_upd nf) (fun o z => z) h5⟩
  · have na : a ≠ p := fun z => h' (by rw [z]; exact n)
    rw [upd_ne na]; exact h
/-- the object at p, that is nobody's, is another one from now on -/
theorem Good.swap {o : HO} (g : Good S G F σ H env) (n : G p = none) (n1 : p ≠ S.sa) (n2 : p ≠ S.ca) (hs : ∀ (i : Nat) (di : D), env[i]? = some (some (.own di)) → σ[i]? ≠ some (some (.ref p))) : Good S G F σ (upd H p o) env := by
  refine ⟨fun a u e => ?_, g.fg, ⟨g.st.1, ?_⟩, g.ns, g.nc, g.len, fun i sl e => ?_, g.dist⟩
  · have na : a ≠ p := fun z => by rw [z, n] at e; cases e
    rw [upd_ne na]; exact g.kp a u e
  · obtain ⟨_, k, cs, h1, h2, h3⟩ := g.st
    exact ⟨k, cs, by rw [upd_ne n1.symm]; exact h1, by rw [upd_ne n2.symm]; exact h2, h3⟩
  · have q := g.slot i sl e
    cases sl with
    | val d => exact q
    | bor d => exact q
    | own d =>
      obtain ⟨a, h1, h2, h3, h4, h5⟩ := q
      have na : a ≠ p := fun z => hs i d e (by rw [h1, z])
      exact ⟨a, h1, h2, h3, h4, ownR_mono (Sub.refl _) (fun o z => by rw [upd_ne na]; exact z) h5⟩
/-- what a fresh object's freezing leaves: the heap as it is, or with the object locked -/
def Lk (p : Addr) (H : Hp) (R : Hp → Prop) : Prop := R H ∨ ∃ u, H p = some u ∧ Mut (some u) ∧ ∀ od, R (upd H p (.frz od u))
theorem Good.frz_own (g : Good S G F σ H env) (f : FreshR S G F σ H env p d) : Lk p H fun H' => ∃ G' F', Ext G F G' F' ∧ Good S G' F' σ H' env ∧ Rp S F' d (.ref p) := by
  obtain ⟨n, n1, n2, hs, ow⟩ := f
  rcases ownR_frz (g.fg.no n) ow with ⟨o, ho, r⟩ | ⟨u, hu, mu, r⟩
  · obtain ⟨g', e⟩ := g.frz ho n n1 n2 hs
    exact .inl ⟨_, _, e, g', r⟩
  · refine .inr ⟨u, hu, mu, fun od => ?_⟩
    obtain ⟨g', e⟩ := (g.swap (o := .frz od u) n n1 n2 hs).frz upd_same n n1 n2 hs
    exact ⟨_, _, e, g', r od⟩
/-- the wish behind, where a new object may be locked first -/
def LkQ (Q : VK) : VK := fun v H => (∃ p, v = .ref p ∧ Lk p H (Q (.ref p))) ∨ Q v H
theorem post_fresh (h : Post S G F σ env Q d) : PostF S G F σ env (LkQ Q) d := fun p G' F' H' e g f => by
  refine .inl ⟨p, rfl, ?_⟩
  rcases g.frz_own f with ⟨G2, F2, e2, g2, r⟩ | ⟨u, hu, mu, k⟩
  · exact .inl (h _ G2 F2 H' (e.trans e2) g2 r)
  · refine .inr ⟨u, hu, mu, fun od => ?_⟩
    obtain ⟨G2, F2, e2, g2, r⟩ := k od
    exact h _ G2 F2 _ (e.trans e2) g2 r
/-- a list needs no lock -/
theorem post_freshL {xs : List D} (h : Post S G F σ env Q (.lst xs)) : PostF S G F σ env Q (.lst xs) := fun p G' F' H' e g f => by
  obtain ⟨n, n1, n2, hs, vs, hp, r, z⟩ := f
  obtain ⟨g', e'⟩ := g.frz hp n n1 n2 hs
  exact h _ _ _ H' (e.trans e') g' (.lst upd_same (r.mono (sub_upd (g.fg.no n))) z)
theorem post_b (h : PostB S G F σ env Q d) : Post S G F σ env Q d := fun v G' F' H' e g r => h v G' F' H' e g (.inl r)
theorem pe_lockQ {X : Cx} {e : Expr} {t : TE} (h : PE X e t) : PE X e (fun σ H Q => t σ H (LkQ Q)) := ⟨fun pins s σ H Q I q => by
  refine thn (h.run pins s σ H _ I q) fun v s' ⟨x, H', I', r, q'⟩ => ?_
  rcases q' with ⟨p, rfl, q' | ⟨u, hu, mu, q'⟩⟩ | q'
  · exact ⟨_, H', I', r, q'⟩
  · obtain ⟨od, I2⟩ := I'.lock hu mu
    exact ⟨_, _, I2, r, q' od⟩
  · exact ⟨x, H', I', r, q'⟩⟩
theorem QF.e {X : Cx} {e : Expr} {m : DE} (h : QF S X e m) : QE S X e m := pe_weak (pe_lockQ h) fun σ H Q ⟨G, F, env, g, q⟩ => ⟨G, F, env, g, M.wp_mono q fun _ => post_fresh⟩
theorem QE.b {X : Cx} {e : Expr} {m : DE} (h : QE S X e m) : QB S X e m := pe_weak h fun σ H Q ⟨G, F, env, g, q⟩ => ⟨G, F, env, g, M.wp_mono q fun _ => post_b⟩
theorem QF.b {X : Cx} {e : Expr} {m : DE} (h : QF S X e m) : QB S X e m := h.e.b
theorem RdB.mono (s : Sub F F') (h : RdB S F σ env d v) : RdB S F' σ env d v := by
  rcases h with h | h
  · exact .inl (h.mono s)
  · exact .inr h
theorem RdB.elim (g : Good S G F σ H env) (h : RdB S F σ env d v) : Rp S F d v ∨ ∃ a, v = .ref a ∧ OwnR S F H a d := by
  rcases h with h | ⟨i, h1 | h1, h2⟩
  · exact .inl h
  · obtain ⟨a, h3, _, _, _, h4⟩ := g.slot i _ h1
    rw [h2] at h3
    cases h3
    exact .inr ⟨_, rfl, h4⟩
  · obtain ⟨u, h3, h4⟩ := g.slot i _ h1
    rw [h2] at h3
    cases h3
    rcases h4 with h4 | ⟨a, e, h4⟩
    · exact .inl h4
    · exact .inr ⟨a, e, ownR_mono (Sub.refl _) (fun o z => g.kp _ _ z) h4⟩
/-- what is read as a list -/
theorem RdB.lst {xs : List D} (g : Good S G F σ H env) (h : RdB S F σ env (.lst xs) v) : ∃ p vs, v = .ref p ∧ H p = some (.lst vs) ∧ RpL S F xs vs ∧ vs.length ≤ sizeLine := by
  rcases h.elim g with h | ⟨a, rfl, vs, h4, h5, h6⟩
  · cases h with
    | lst h1 h2 h3 => exact ⟨_, _, rfl, g.fh _ _ h1, h2, h3⟩
  · exact ⟨_, vs, rfl, h4, h5, h6⟩
theorem RdB.rp (g : Good S G F σ H env) (h : RdB S F σ env d v) (hd : d.mut = false) : Rp S F d v := by
  rcases h.elim g with h | ⟨a, _, h4⟩
  · exact h
  · rw [ownR_mut h4] at hd; cases hd
theorem Rp.tupI {a : Addr} {xs : List D} (h : Rp S F (.tup xs) (.ref a)) : ∃ vs, F a = some (.tup vs) ∧ RpL S F xs vs ∧ vs.length ≤ sizeLine := by
  cases h with
  | tup h1 h2 h3 => exact ⟨_, h1, h2, h3⟩
end
end DL

set_option Elab.async false
set_option linter.all false
set_option maxRecDepth 100000
/-! DL2: expressions by trees. -/
namespace DL
open PySem PySem.Spec L2
open PyProof.Rows hiding St

section
variable {S : SA} {X : Cx} {G F G' F' H H' : Hp} {σ : L2.St} {env : DEnv} {d : D} {v : V} {p : Addr} {Q : VK} {m ma mb mc : DE} {a b c e : Expr} {pos : Pos}
theorem post_shift {G1 F1 : Hp} (x : Ext G F G1 F1) (h : Post S G F σ env Q d) : Post S G1 F1 σ env Q d := fun v G' F' H' e g r => h v G' F' H' (x.trans e) g r
theorem postF_shift {G1 F1 : Hp} (x : Ext G F G1 F1) (h : PostF S G F σ env Q d) : PostF S G1 F1 σ env Q d := fun v G' F' H' e g r => h v G' F' H' (x.trans e) g r
theorem postB_shift {G1 F1 : Hp} (x : Ext G F G1 F1) (h : PostB S G F σ env Q d) : PostB S G1 F1 σ env Q d := fun v G' F' H' e g r => h v G' F' H' (x.trans e) g r
/-- the value at once -/
theorem Post.now (h : Post S G F σ env Q d) (g : Good S G F σ H env) (r : Rp S F d v) : Q v H := h v G F H (Ext.refl _ _) g r
theorem PostB.now (h : PostB S G F σ env Q d) (g : Good S G F σ H env) (r : RdB S F σ env d v) : Q v H := h v G F H (Ext.refl _ _) g r
/-- a new object at p -/
theorem Good.new (g : Good S G F σ H env) (hp : H p = none) (o : HO) : Good S G F σ (upd H p o) env := g.grow (sub_upd hp)
theorem Good.stNe (g : Good S G F σ H env) (hp : H p = none) : p ≠ S.sa ∧ p ≠ S.ca := by
  obtain ⟨_, n, cs, h1, h2, _⟩ := g.st
  refine ⟨fun z => ?_, fun z => ?_⟩
  · rw [z, h1] at hp; cases hp
  · rw [z, h2] at hp; cases hp
theorem Good.ownNe (g : Good S G F σ H env) (hp : H p = none) : ∀ (i : Nat) (di : D), env[i]? = some (some (.own di)) → σ[i]? ≠ some (some (.ref p)) := fun i di e z => by
  obtain ⟨a, h1, _, _, _, h5⟩ := g.slot i _ e
  obtain ⟨o, h6⟩ := ownR_some h5
  rw [z] at h1
  cases h1
  rw [h6] at hp; cases hp
theorem Good.fresh_lst (g : Good S G F σ H env) (hp : H p = none) {xs : List D} {vs : List V} (r : RpL S F xs vs) (z : vs.length ≤ sizeLine) : FreshR S G F σ (upd H p (.lst vs)) env p (.lst xs) :=
  ⟨g.kp.no hp, (g.stNe hp).1, (g.stNe hp).2, g.ownNe hp, vs, upd_same, r, z⟩
theorem PostF.lst (h : PostF S G F σ env Q (.lst xs)) (g : Good S G F σ H env) (hp : H p = none) {vs : List V} (r : RpL S F xs vs) (z : vs.length ≤ sizeLine) : Q (.ref p) (upd H p (.lst vs)) :=
  h p G F _ (Ext.refl _ _) (g.new hp _) (g.fresh_lst hp r z)
theorem Post.lst (h : Post S G F σ env Q (.lst xs)) (g : Good S G F σ H env) (hp : H p = none) {vs : List V} (r : RpL S F xs vs) (z : vs.length ≤ sizeLine) : Q (.ref p) (upd H p (.lst vs)) :=
  (post_freshL h).lst g hp r z
theorem Post.tup (h : Post S G F σ env Q (.tup xs)) (g : Good S G F σ H env) (hp : H p = none) {vs : List V} (r : RpL S F xs vs) (z : vs.length ≤ sizeLine) : Q (.ref p) (upd H p (.tup vs)) := by
  have n := g.kp.no hp
  obtain ⟨g', x⟩ := (g.new hp (.tup vs)).frz upd_same n (g.stNe hp).1 (g.stNe hp).2 (g.ownNe hp)
  exact h _ _ _ _ x g' (.tup upd_same (r.mono (sub_upd (g.fg.no n))) z)

/-! ### names, constants -/
def mVar (i : Nat) : DE := fun env => match env[i]? with
  | some (some (.val d)) => .ret d
  | some (some (.bor d)) => if d.mut then .fail else .ret d
  | _ => .fail
def mVarB (i : Nat) : DE := fun env => match env[i]? with
  | some (some (.val d)) => .ret d
  | some (some (.own d)) => .ret d
  | some (some (.bor d)) => .ret d
  | _ => .fail
def mC (d : D) : DE := fun _ => .ret d
theorem mVar_wp {i : Nat} {P : D → Prop} (h : (mVar i env).wp P) : ∃ d, (env[i]? = some (some (.val d)) ∨ (env[i]? = some (some (.bor d)) ∧ d.mut = false)) ∧ P d := by
  unfold mVar at h
  split at h
  · exact ⟨_, .inl (by assumption), h⟩
  · split at h
    · exact h.elim
    · rename_i hm; exact ⟨_, .inr ⟨by assumption, by simpa using hm⟩, h⟩
  · exact h.elim
theorem mVarB_wp {i : Nat} {P : D → Prop} (h : (mVarB i env).wp P) : ∃ d, (env[i]? = some (some (.val d)) ∨ env[i]? = some (some (.own d)) ∨ env[i]? = some (some (.bor d))) ∧ P d := by
  unfold mVarB at h
  split at h
  · exact ⟨_, .inl (by assumption), h⟩
  · exact ⟨_, .inr (.inl (by assumption)), h⟩
  · exact ⟨_, .inr (.inr (by assumption)), h⟩
  · exact h.elim
theorem qv (i : Nat) {x : Str} (hN : X.N[i]? = some x := by rfl) (hv : Vis X.env.scope x := by first | exact Or.inl rfl | exact Or.inr (Or.inl rfl) | exact Or.inr (Or.inr rfl)) (hd : (x == ("__debug__" : Str)) = false := by decide)
    (hcd : (x == ("__classdict__" : Str)) = false := by decide) : QE S X (.Name x pos) (mVar i) := pe_weak (pe_var hN hv hd hcd) fun σ H Q ⟨G, F, env, g, q⟩ => by
  obtain ⟨d, e | ⟨e, hm⟩, q⟩ := mVar_wp q
  · obtain ⟨v, h1, h2⟩ := g.slot i _ e
    exact ⟨v, h1, q.now g h2⟩
  · obtain ⟨v, h1, h2⟩ := g.slot i _ e
    exact ⟨v, h1, q.now g (RdB.rp g (.inr ⟨i, .inr e, h1⟩) hm)⟩
theorem qvb (i : Nat) {x : Str} (hN : X.N[i]? = some x := by rfl) (hv : Vis X.env.scope x := by first | exact Or.inl rfl | exact Or.inr (Or.inl rfl) | exact Or.inr (Or.inr rfl)) (hd : (x == ("__debug__" : Str)) = false := by decide)
    (hcd : (x == ("__classdict__" : Str)) = false := by decide) : QB S X (.Name x pos) (mVarB i) := pe_weak (pe_var hN hv hd hcd) fun σ H Q ⟨G, F, env, g, q⟩ => by
  obtain ⟨d, e | e | e, q⟩ := mVarB_wp q
  · obtain ⟨v, h1, h2⟩ := g.slot i _ e
    exact ⟨v, h1, q.now g (.inl h2)⟩
  · obtain ⟨a, h1, _⟩ := g.slot i _ e
    exact ⟨.ref a, h1, q.now g (.inr ⟨i, .inl e, h1⟩)⟩
  · obtain ⟨v, h1, _⟩ := g.slot i _ e
    exact ⟨v, h1, q.now g (.inr ⟨i, .inr e, h1⟩)⟩
theorem qint {i j} : QE S X (.Constant (.int i) j pos) (mC (.int i)) := pe_weak pe_int fun σ H Q ⟨G, F, env, g, q⟩ => Post.now q g (.int i)
theorem qbl {b j} : QE S X (.Constant (.bool b) j pos) (mC (.bl b)) := pe_weak pe_bl fun σ H Q ⟨G, F, env, g, q⟩ => Post.now q g (.bl b)
theorem qnon {j} : QE S X (.Constant .none j pos) (mC .non) := pe_weak pe_non fun σ H Q ⟨G, F, env, g, q⟩ => Post.now q g .non
theorem qstr {x : Str} {j} (y : Str) (e : x = y := by rfl) (h : PyData.strOk y = true := by decide +kernel) (z : y.length ≤ sizeLine := by decide +kernel) : QE S X (.Constant (.str x) j pos) (mC (.str y)) := by
  subst e
  exact pe_weak pe_str fun σ H Q ⟨G, F, env, g, q⟩ => Post.now q g (.str _ h z)

/-! ### operators by trees -/
def OpD (S : SA) (X : Cx) (f : Value → Value → Sem Value) (op : D → D → M D) : Prop := ∃ r : R2, OpR X f r ∧ ∀ (G F : Hp) (σ : L2.St) (H : Hp) (env : DEnv) (x y : V) (d e : D) (Q : VK),
  Good S G F σ H env → RdB S F σ env d x → RdB S F σ env e y → (op d e).wp (Post S G F σ env Q) → r x y H Q
def OpF (S : SA) (X : Cx) (f : Value → Value → Sem Value) (op : D → D → M D) : Prop := ∃ r : R2, OpR X f r ∧ ∀ (G F : Hp) (σ : L2.St) (H : Hp) (env : DEnv) (x y : V) (d e : D) (Q : VK),
  Good S G F σ H env → RdB S F σ env d x → RdB S F σ env e y → (op d e).wp (PostF S G F σ env Q) → r x y H Q
def mBin (op : D → D → M D) (ma mb : DE) : DE := fun env => ma env >>= fun x => mb env >>= fun y => op x y
/-- two parts, one behind the other -/
theorem two (ma mb : DE) {R : V → V → Hp → Prop} {op : D → D → M D} {PP : Hp → Hp → D → Prop}
    (g : Good S G F σ H env) (q : (mBin op ma mb env).wp (PP G F)) (sh : ∀ G F G1 F1 d, Ext G F G1 F1 → PP G F d → PP G1 F1 d)
    (k : ∀ G F H x y d e, Good S G F σ H env → RdB S F σ env d x → RdB S F σ env e y → (op d e).wp (PP G F) → R x y H) :
    TB_ S ma σ H fun x H1 => TB_ S mb σ H1 fun y H2 => R x y H2 :=
  ⟨G, F, env, g, M.wp_mono (M.wpb q) fun d q v G1 F1 H1 e1 g1 r1 => ⟨G1, F1, env, g1, M.wp_mono (M.wpb q) fun d2 q v2 G2 F2 H2 e2 g2 r2 =>
    k G2 F2 H2 v v2 d d2 g2 (r1.mono e2.f) r2 (M.wp_mono q fun d3 => sh _ _ _ _ d3 (e1.trans e2))⟩⟩
theorem qbin {o : Operator} {op : D → D → M D} (ho : OpD S X (binaryOp o) op) (ha : QB S X a ma) (hb : QB S X b mb) : QE S X (.BinOp a o b pos) (mBin op ma mb) := by
  obtain ⟨r, hr, k⟩ := ho
  exact pe_weak (pe_op hr ha hb) fun σ H Q ⟨G, F, env, g, q⟩ => two ma mb (PP := fun G F => Post S G F σ env Q) g q (fun _ _ _ _ _ => post_shift) fun G F H x y d e g r1 r2 q => k G F σ H env x y d e Q g r1 r2 q
theorem qbinF {o : Operator} {op : D → D → M D} (ho : OpF S X (binaryOp o) op) (ha : QB S X a ma) (hb : QB S X b mb) : QF S X (.BinOp a o b pos) (mBin op ma mb) := by
  obtain ⟨r, hr, k⟩ := ho
  exact pe_weak (pe_op hr ha hb) fun σ H Q ⟨G, F, env, g, q⟩ => two ma mb (PP := fun G F => PostF S G F σ env Q) g q (fun _ _ _ _ _ => postF_shift) fun G F H x y d e g r1 r2 q => k G F σ H env x y d e Q g r1 r2 q

/-! ints -/
def dI2 (C : Int → Int → Bool) (f : Int → Int → D) : D → D → M D
  | .int i, .int j => if C i j then .ret (f i j) else .fail
  | _, _ => .fail
theorem RdB.int {i : Int} (g : Good S G F σ H env) (h : RdB S F σ env (.int i) v) : v = .int i := by
  cases h.rp g rfl
  rfl
theorem RdB.str {x : Str} (g : Good S G F σ H env) (h : RdB S F σ env (.str x) v) : v = .str x ∧ PyData.strOk x = true ∧ x.length ≤ sizeLine := by
  cases h.rp g rfl
  exact ⟨rfl, by assumption, by assumption⟩
theorem RdB.bl {b : Bool} (g : Good S G F σ H env) (h : RdB S F σ env (.bl b) v) : v = .bl b := by
  cases h.rp g rfl
  rfl
theorem RdB.non (g : Good S G F σ H env) (h : RdB S F σ env .non v) : v = .non := by
  cases h.rp g rfl
  rfl
theorem RdB.tup {xs : List D} (g : Good S G F σ H env) (h : RdB S F σ env (.tup xs) v) : ∃ p vs, v = .ref p ∧ F p = some (.tup vs) ∧ H p = some (.tup vs) ∧ RpL S F xs vs ∧ vs.length ≤ sizeLine := by
  cases h.rp g rfl
  exact ⟨_, _, rfl, by assumption, g.fh _ _ (by assumption), by assumption, by assumption⟩
theorem RdB.rpl {xs : List D} (g : Good S G F σ H env) (h : RdB S F σ env (.tup xs) v) : Rp S F (.tup xs) v := h.rp g rfl
theorem opD_I {f : Value → Value → Sem Value} {C : Int → Int → Prop} {C' : Int → Int → Bool} {gi : Int → Int → Int} (h : OpR X f (rI C fun i j => .int (gi i j))) (hc : ∀ i j, C' i j = true → C i j) : OpD S X f (dI2 C' fun i j => .int (gi i j)) :=
  ⟨_, h, fun G F σ H env x y d e Q g r1 r2 q => by
    cases d with
    | int i =>
      cases e with
      | int j =>
        unfold dI2 at q
        simp only at q
        split at q
        · obtain rfl := r1.int g
          obtain rfl := r2.int g
          exact ⟨i, j, rfl, rfl, hc i j (by assumption), Post.now q g (.int _)⟩
        · exact q.elim
      | _ => exact q.elim
    | _ => exact q.elim⟩
theorem opD_I0 {f : Value → Value → Sem Value} {gi : Int → Int → Int} (h : OpR X f (rI0 fun i j => .int (gi i j))) : OpD S X f (dI2 (fun _ _ => true) fun i j => .int (gi i j)) :=
  ⟨_, h, fun G F σ H env x y d e Q g r1 r2 q => by
    cases d with
    | int i =>
      cases e with
      | int j =>
        obtain rfl := r1.int g
        obtain rfl := r2.int g
        exact ⟨i, j, rfl, rfl, Post.now q g (.int _)⟩
      | _ => exact q.elim
    | _ => exact q.elim⟩
def small64 (i : Int) : Bool := decide (-(2 ^ 64) < i) && decide (i < 2 ^ 64)
def dSub : D → D → M D := dI2 (fun _ _ => true) fun i j => .int (i - j)
def dMul : D → D → M D := dI2 (fun i j => small64 i || small64 j) fun i j => .int (i * j)
def dFdiv : D → D → M D := dI2 (fun _ j => decide (0 < j) && decide (j < 2 ^ 30)) fun i j => .int (i / j)
def dMod : D → D → M D := dI2 (fun _ j => decide (0 < j)) fun i j => .int (i % j)
def dPow : D → D → M D := dI2 (fun i j => decide (0 ≤ j) && (decide (j ≤ 1000000) && decide (i.natAbs < 2 ^ 64))) fun i j => .int (i ^ j.toNat)
def dShl : D → D → M D := dI2 (fun i j => decide (0 ≤ j) && (decide (j ≤ 1000000) && decide (i.natAbs < 2 ^ 64))) fun i j => .int (i * 2 ^ j.toNat)
theorem o_sub : OpD S X (binaryOp .Sub) dSub := opD_I0 op_sub
theorem o_mul : OpD S X (binaryOp .Mult) dMul := opD_I op_mul fun i j h => by
  simp only [small64, Bool.or_eq_true, Bool.and_eq_true, decide_eq_true_eq] at h
  rcases h with h | h
  · exact .inl h
  · exact .inr h
theorem o_mod : OpD S X (binaryOp .Mod) dMod := opD_I op_mod fun i j h => of_decide_eq_true h
theorem o_pow : OpD S X (binaryOp .Pow) dPow := opD_I op_pow fun i j h => by
  simp only [Bool.and_eq_true, decide_eq_true_eq] at h
  exact h
theorem o_shl : OpD S X (binaryOp .LShift) dShl := opD_I op_shl fun i j h => by
  simp only [Bool.and_eq_true, decide_eq_true_eq] at h
  exact h
/-! + of ints, texts, tuples, lists -/
theorem opR_or {f : Value → Value → Sem Value} {r r' : R2} (h : OpR X f r) (h' : OpR X f r') : OpR X f (fun x y H Q => r x y H Q ∨ r' x y H Q) := by
  intro pins s σ H x y v u Q I rx ry q
  rcases q with q | q
  · exact h pins s σ H x y v u Q I rx ry q
  · exact h' pins s σ H x y v u Q I rx ry q
def dAdd : D → D → M D
  | .int i, .int j => .ret (.int (i + j))
  | .str x, .str y => if x.length + y.length ≤ sizeLine then .ret (.str (x ++ y)) else .fail
  | .tup xs, .tup ys => if xs.length + ys.length ≤ sizeLine then .ret (.tup (xs ++ ys)) else .fail
  | .lst xs, .lst ys => if xs.length + ys.length ≤ sizeLine then .ret (.lst (xs ++ ys)) else .fail
  | _, _ => .fail
def dCat : D → D → M D
  | .lst xs, .lst ys => if xs.length + ys.length ≤ sizeLine then .ret (.lst (xs ++ ys)) else .fail
  | _, _ => .fail
end
end DL

set_option Elab.async false
set_option linter.all false
set_option maxRecDepth 100000
/-! DL3: +, comparisons, in, tests, displays, subscripts, slices. -/
namespace DL
open PySem PySem.Spec L2
open PyProof.Rows hiding St

theorem strOk_append {x y : Str} (hx : PyData.strOk x = true) (hy : PyData.strOk y = true) : PyData.strOk (x ++ y) = true := by
  unfold PyData.strOk at *
  show (x.cps ++ y.cps).all _ = true
  rw [Array.all_append, hx, hy]; rfl

/-! ### plain trees: no dicts, no truth values, not deep -/
mutual
def D.pl : Nat → D → Bool
  | _, .non => true
  | _, .int _ => true
  | _, .str _ => true
  | n, .tup xs => match n with
    | 0 => false
    | k + 1 => D.plL k xs
  | n, .lst xs => match n with
    | 0 => false
    | k + 1 => D.plL k xs
  | _, .bl _ => false
  | _, .dct _ _ => false
  | _, .stt => false
def D.plL : Nat → List D → Bool
  | _, [] => true
  | n, x :: xs => D.pl n x && D.plL n xs
end
mutual
def D.beq : D → D → Bool
  | .non, d => match d with
    | .non => true
    | _ => false
  | .bl a, d => match d with
    | .bl b => a == b
    | _ => false
  | .int a, d => match d with
    | .int b => decide (a = b)
    | _ => false
  | .str a, d => match d with
    | .str b => decide (a = b)
    | _ => false
  | .tup xs, d => match d with
    | .tup ys => D.beqL xs ys
    | _ => false
  | .lst xs, d => match d with
    | .lst ys => D.beqL xs ys
    | _ => false
  | .dct _ _, _ => false
  | .stt, _ => false
def D.beqL : List D → List D → Bool
  | [], ds => match ds with
    | [] => true
    | _ :: _ => false
  | x :: xs, ds => match ds with
    | [] => false
    | y :: ys => D.beq x y && D.beqL xs ys
end
mutual
def D.py : D → PyData
  | .non => .none
  | .bl b => .bool b
  | .int i => .int i
  | .str x => .str x
  | .tup xs => .tuple (D.pyL xs)
  | .lst xs => .list (D.pyL xs)
  | .dct _ _ => .none
  | .stt => .none
def D.pyL : List D → List PyData
  | [] => []
  | x :: xs => D.py x :: D.pyL xs
end
mutual
theorem D.beq_eq : ∀ (n : Nat) (d e : D), d.pl n = true → (D.beq d e = true ↔ d = e)
  | n, .non, e, _ => by cases e <;> simp [D.beq]
  | n, .int i, e, _ => by cases e <;> simp [D.beq]
  | n, .str i, e, _ => by cases e <;> simp [D.beq]
  | n, .bl i, e, h => by simp [D.pl] at h
  | n, .dct _ i, e, h => by simp [D.pl] at h
  | n, .stt, e, h => by simp [D.pl] at h
  | 0, .tup xs, e, h => by simp [D.pl] at h
  | 0, .lst xs, e, h => by simp [D.pl] at h
  | n + 1, .tup xs, e, h => by
    cases e with
    | tup ys => simp only [D.beq, D.tup.injEq]; exact D.beqL_eq n xs ys (by simpa [D.pl] using h)
    | _ => simp [D.beq]
  | n + 1, .lst xs, e, h => by
    cases e with
    | lst ys => simp only [D.beq, D.lst.injEq]; exact D.beqL_eq n xs ys (by simpa [D.pl] using h)
    | _ => simp [D.beq]
theorem D.beqL_eq : ∀ (n : Nat) (d e : List D), D.plL n d = true → (D.beqL d e = true ↔ d = e)
  | n, [], e, _ => by cases e <;> simp [D.beqL]
  | n, x :: xs, e, h => by
    simp only [D.plL, Bool.and_eq_true] at h
    cases e with
    | nil => simp [D.beqL]
    | cons y ys => simp only [D.beqL, Bool.and_eq_true, List.cons.injEq, D.beq_eq n x y h.1, D.beqL_eq n xs ys h.2]
end
mutual
theorem D.eqv_beq : ∀ (n : Nat) (d e : D), d.pl n = true → e.pl n = true → PyData.eqv d.py e.py = D.beq d e
  | n, .non, e, _, h => by cases e <;> simp [D.beq, D.py, PyData.eqv] <;> simp [D.pl] at h
  | n, .int i, e, _, h => by cases e <;> simp [D.beq, D.py, PyData.eqv] <;> simp [D.pl] at h <;> rfl
  | n, .str i, e, _, h => by cases e <;> simp [D.beq, D.py, PyData.eqv] <;> simp [D.pl] at h <;> rfl
  | n, .bl i, e, h, _ => by simp [D.pl] at h
  | n, .dct _ i, e, h, _ => by simp [D.pl] at h
  | n, .stt, e, h, _ => by simp [D.pl] at h
  | 0, .tup xs, e, h, _ => by simp [D.pl] at h
  | 0, .lst xs, e, h, _ => by simp [D.pl] at h
  | n + 1, .tup xs, e, h, h' => by
    cases e with
    | tup ys => simp only [D.beq, D.py, PyData.eqv]; exact D.eqvL_beq n xs ys (by simpa [D.pl] using h) (by simpa [D.pl] using h')
    | _ => first | (simp [D.pl] at h'; done) | simp [D.beq, D.py, PyData.eqv]
  | n + 1, .lst xs, e, h, h' => by
    cases e with
    | lst ys => simp only [D.beq, D.py, PyData.eqv]; exact D.eqvL_beq n xs ys (by simpa [D.pl] using h) (by simpa [D.pl] using h')
    | _ => first | (simp [D.pl] at h'; done) | simp [D.beq, D.py, PyData.eqv]
theorem D.eqvL_beq : ∀ (n : Nat) (d e : List D), D.plL n d = true → D.plL n e = true → PyData.eqvAll (D.pyL d) (D.pyL e) = D.beqL d e
  | n, [], e, _, _ => by cases e <;> simp [D.beqL, D.pyL, PyData.eqvAll]
  | n, x :: xs, e, h, h' => by
    simp only [D.plL, Bool.and_eq_true] at h
    cases e with
    | nil => simp [D.beqL, D.pyL, PyData.eqvAll]
    | cons y ys =>
      simp only [D.plL, Bool.and_eq_true] at h'
      simp only [D.beqL, D.pyL, PyData.eqvAll, D.eqv_beq n x y h.1 h'.1, D.eqvL_beq n xs ys h.2 h'.2]
end
mutual
theorem D.dep : ∀ (n : Nat) (d : D), d.pl n = true → d.py.depth ≤ n
  | n, .non, _ => by simp [D.py, PyData.depth]
  | n, .int i, _ => by simp [D.py, PyData.depth]
  | n, .str i, _ => by simp [D.py, PyData.depth]
  | n, .bl i, h => by simp [D.pl] at h
  | n, .dct _ i, h => by simp [D.pl] at h
  | n, .stt, h => by simp [D.pl] at h
  | 0, .tup xs, h => by simp [D.pl] at h
  | 0, .lst xs, h => by simp [D.pl] at h
  | n + 1, .tup xs, h => by simp only [D.py, PyData.depth]; exact Nat.succ_le_succ (D.depL n xs (by simpa [D.pl] using h))
  | n + 1, .lst xs, h => by simp only [D.py, PyData.depth]; exact Nat.succ_le_succ (D.depL n xs (by simpa [D.pl] using h))
theorem D.depL : ∀ (n : Nat) (d : List D), D.plL n d = true → PyData.depthAll (D.pyL d) ≤ n
  | n, [], _ => by simp [D.pyL, PyData.depthAll]
  | n, x :: xs, h => by
    simp only [D.plL, Bool.and_eq_true] at h
    simp only [D.pyL, PyData.depthAll]
    exact Nat.max_le.mpr ⟨D.dep n x h.1, D.depL n xs h.2⟩
end
section
variable {S : SA} {K : PySem.W.Frag} {F H : Hp}
mutual
theorem Rp.dp (s : Sub F H) : ∀ (n : Nat) (d : D) {v : V}, d.pl n = true → Rp S F d v → Dp K H v d.py ∧ PyData.canLay0 d.py = true
  | n, .non, _, _, r => by cases r; exact ⟨.non, by simp [D.py, PyData.canLay0]⟩
  | n, .bl b, _, h, _ => by simp [D.pl] at h
  | n, .dct _ b, _, h, _ => by simp [D.pl] at h
  | n, .stt, _, h, _ => by simp [D.pl] at h
  | n, .int i, _, _, r => by cases r; exact ⟨.int i, by simp [D.py, PyData.canLay0]⟩
  | n, .str x, _, _, r => by
    cases r with
    | str x h _ => exact ⟨.str x, by simp only [D.py, PyData.canLay0]; exact h⟩
  | 0, .tup xs, _, h, _ => by simp [D.pl] at h
  | 0, .lst xs, _, h, _ => by simp [D.pl] at h
  | n + 1, .tup xs, _, h, r => by
    cases r with
    | tup h1 r _ =>
      obtain ⟨q1, q2⟩ := RpL.dp s n xs (by simpa [D.pl] using h) r
      simp only [D.py, PyData.canLay0]
      exact ⟨.tup (.of (s _ _ h1)) q1, q2⟩
  | n + 1, .lst xs, _, h, r => by
    cases r with
    | lst h1 r _ =>
      obtain ⟨q1, q2⟩ := RpL.dp s n xs (by simpa [D.pl] using h) r
      simp only [D.py, PyData.canLay0]
      exact ⟨.lst (.of (s _ _ h1)) q1, q2⟩
theorem RpL.dp (s : Sub F H) : ∀ (n : Nat) (ds : List D) {vs : List V}, D.plL n ds = true → RpL S F ds vs → DpAll K H vs (D.pyL ds) ∧ PyData.canLayAll0 (D.pyL ds) = true
  | n, [], _, _, r => by cases r; exact ⟨.nil, by simp [D.pyL, PyData.canLayAll0]⟩
  | n, x :: xs, _, h, r => by
    cases r with
    | cons r t =>
      simp only [D.plL, Bool.and_eq_true] at h
      obtain ⟨q1, q2⟩ := Rp.dp s n x h.1 r
      obtain ⟨q3, q4⟩ := RpL.dp s n xs h.2 t
      simp only [D.pyL, PyData.canLayAll0, q2, q4]
      exact ⟨.cons q1 q3, rfl⟩
end
end
section
variable {S : SA} {X : Cx} {G F G' F' H H' : Hp} {σ : L2.St} {env : DEnv} {d : D} {v : V} {p : Addr} {Q : VK} {m ma mb mc : DE} {a b c e : Expr} {pos : Pos}
theorem RdB.dp {K : PySem.W.Frag} (g : Good S G F σ H env) {n : Nat} (h : d.pl n = true) (r : RdB S F σ env d v) : Dp K H v d.py ∧ PyData.canLay0 d.py = true := by
  rcases r.elim g with r | ⟨a, rfl, h4⟩
  · exact Rp.dp g.fh n d h r
  · skip
    cases d with
    | lst xs =>
      obtain ⟨vs, h5, h6, _⟩ := h4
      cases n with
      | zero => simp [D.pl] at h
      | succ n =>
        obtain ⟨q1, q2⟩ := RpL.dp (K := K) g.fh n xs (by simpa [D.pl] using h) h6
        simp only [D.py, PyData.canLay0]
        exact ⟨.lst (.of h5) q1, q2⟩
    | dct _ _ => simp [D.pl] at h
    | _ => exact h4.elim
theorem RdB.shaped {K : PySem.W.Frag} (g : Good S G F σ H env) (h : d.pl 64 = true) (r : RdB S F σ env d v) : Dp K H v d.py ∧ SeqAt.shaped d.py = true := by
  obtain ⟨q1, q2⟩ := r.dp (K := K) g h
  refine ⟨q1, ?_⟩
  unfold SeqAt.shaped
  rw [q2, decide_eq_true (D.dep 64 d h)]; rfl

/-! ### == and != -/
def dEq : D → D → M D
  | .bl a, e => match e with
    | .bl b => .ret (.bl (a == b))
    | _ => .fail
  | d, e => if d.pl 64 && e.pl 64 then .ret (.bl (D.beq d e)) else .fail
def dNe : D → D → M D
  | .bl a, e => match e with
    | .bl b => .ret (.bl (!(a == b)))
    | _ => .fail
  | d, e => if d.pl 64 && e.pl 64 then .ret (.bl (!D.beq d e)) else .fail
theorem dEq_wp {P : D → Prop} {d e : D} (h : (dEq d e).wp P) : (∃ a b, d = .bl a ∧ e = .bl b ∧ P (.bl (a == b))) ∨ (d.pl 64 = true ∧ e.pl 64 = true ∧ P (.bl (D.beq d e))) := by
  cases d with
  | bl a =>
    cases e with
    | bl b => exact .inl ⟨a, b, rfl, rfl, h⟩
    | _ => exact h.elim
  | _ =>
    refine .inr ?_
    unfold dEq at h
    simp only at h
    split at h
    · rename_i hc
      rw [Bool.and_eq_true] at hc
      exact ⟨hc.1, hc.2, h⟩
    · exact h.elim
theorem dNe_wp {P : D → Prop} {d e : D} (h : (dNe d e).wp P) : (∃ a b, d = .bl a ∧ e = .bl b ∧ P (.bl (!(a == b)))) ∨ (d.pl 64 = true ∧ e.pl 64 = true ∧ P (.bl (!D.beq d e))) := by
  cases d with
  | bl a =>
    cases e with
    | bl b => exact .inl ⟨a, b, rfl, rfl, h⟩
    | _ => exact h.elim
  | _ =>
    refine .inr ?_
    unfold dNe at h
    simp only at h
    split at h
    · rename_i hc
      rw [Bool.and_eq_true] at hc
      exact ⟨hc.1, hc.2, h⟩
    · exact h.elim
theorem bl_dec (a b : Bool) : decide (V.bl a = V.bl b) = (a == b) := by cases a <;> cases b <;> rfl
theorem o_eq (hu : X.A.units + 64 < cLine) : OpD S X (compareOp .Eq) dEq := ⟨_, L2.op_eq.or (L2.op_eqD hu), fun G F σ H env x y d e Q g r1 r2 q => by
  rcases dEq_wp q with ⟨a, b, rfl, rfl, q⟩ | ⟨h1, h2, q⟩
  · obtain rfl := r1.bl g
    obtain rfl := r2.bl g
    exact .inl ⟨rfl, by rw [bl_dec]; exact Post.now q g (.bl _)⟩
  · obtain ⟨p1, s1⟩ := r1.shaped (K := X.K) g h1
    obtain ⟨p2, s2⟩ := r2.shaped (K := X.K) g h2
    exact .inr ⟨_, _, p1, p2, s1, s2, by rw [D.eqv_beq 64 d e h1 h2]; exact Post.now q g (.bl _)⟩⟩
theorem o_ne (hu : X.A.units + 64 < cLine) : OpD S X (compareOp .NotEq) dNe := ⟨_, L2.op_ne.or (L2.op_neD hu), fun G F σ H env x y d e Q g r1 r2 q => by
  rcases dNe_wp q with ⟨a, b, rfl, rfl, q⟩ | ⟨h1, h2, q⟩
  · obtain rfl := r1.bl g
    obtain rfl := r2.bl g
    exact .inl ⟨rfl, by rw [bl_dec]; exact Post.now q g (.bl _)⟩
  · obtain ⟨p1, s1⟩ := r1.shaped (K := X.K) g h1
    obtain ⟨p2, s2⟩ := r2.shaped (K := X.K) g h2
    exact .inr ⟨_, _, p1, p2, s1, s2, by rw [D.eqv_beq 64 d e h1 h2]; exact Post.now q g (.bl _)⟩⟩
/-! ### < <= > >= of ints -/
theorem opB_I0 {f : Value → Value → Sem Value} {gi : Int → Int → Bool} (h : OpR X f (rI0 fun i j => .bl (gi i j))) : OpD S X f (dI2 (fun _ _ => true) fun i j => .bl (gi i j)) :=
  ⟨_, h, fun G F σ H env x y d e Q g r1 r2 q => by
    cases d with
    | int i =>
      cases e with
      | int j =>
        obtain rfl := r1.int g
        obtain rfl := r2.int g
        exact ⟨i, j, rfl, rfl, Post.now q g (.bl _)⟩
      | _ => exact q.elim
    | _ => exact q.elim⟩
def dLt : D → D → M D := dI2 (fun _ _ => true) fun i j => .bl (decide (i < j))
def dLe : D → D → M D := dI2 (fun _ _ => true) fun i j => .bl (decide (i ≤ j))
def dGt : D → D → M D := dI2 (fun _ _ => true) fun i j => .bl (decide (j < i))
def dGe : D → D → M D := dI2 (fun _ _ => true) fun i j => .bl (decide (j ≤ i))
theorem o_lt : OpD S X (compareOp .Lt) dLt := opB_I0 op_lt
theorem o_le : OpD S X (compareOp .LtE) dLe := opB_I0 op_le
theorem o_gt : OpD S X (compareOp .Gt) dGt := opB_I0 op_gt
theorem o_ge : OpD S X (compareOp .GtE) dGe := opB_I0 op_ge
/-! ### is None -/
def dIs : D → D → M D
  | d, .non => .ret (.bl (match d with | .non => true | _ => false))
  | _, _ => .fail
def dIsNot : D → D → M D
  | d, .non => .ret (.bl (match d with | .non => false | _ => true))
  | _, _ => .fail
theorem RdB.isNon (g : Good S G F σ H env) (r : RdB S F σ env d v) : decide (v = V.non) = (match d with | .non => true | _ => false) := by
  rcases r.elim g with r | ⟨a, rfl, h4⟩
  · cases r <;> simp
  · skip
    cases d with
    | lst xs => simp
    | dct _ _ => simp
    | _ => exact h4.elim
theorem o_is : OpD S X (compareOp .Is) dIs := ⟨_, op_isN, fun G F σ H env x y d e Q g r1 r2 q => by
  cases e with
  | non =>
    obtain rfl := r2.non g
    refine ⟨rfl, ?_⟩
    rw [r1.isNon g]
    exact Post.now (show Post S G F σ env Q _ by cases d <;> exact q) g (.bl _)
  | _ => cases d <;> exact q.elim⟩
theorem o_isNot : OpD S X (compareOp .IsNot) dIsNot := ⟨_, op_notN, fun G F σ H env x y d e Q g r1 r2 q => by
  cases e with
  | non =>
    obtain rfl := r2.non g
    refine ⟨rfl, ?_⟩
    rw [r1.isNon g]
    exact Post.now (show Post S G F σ env Q _ by cases d <;> exact q) g (.bl _)
  | _ => cases d <;> exact q.elim⟩
/-! ### in, not in: lists, tuples; one text in another -/
def memD (x : D) (xs : List D) : Bool := xs.any fun y => D.beq y x
def strIn (x y : Str) : Bool := !(Builtin.Str.occurrences y x 0 y.length 1).isEmpty
def dIn : D → D → M D
  | x, .lst xs => if x.pl 63 && D.plL 63 xs then .ret (.bl (memD x xs)) else .fail
  | x, .tup xs => if x.pl 63 && D.plL 63 xs then .ret (.bl (memD x xs)) else .fail
  | .str x, .str y => .ret (.bl (strIn x y))
  | _, _ => .fail
def dNotIn : D → D → M D
  | x, .lst xs => if x.pl 63 && D.plL 63 xs then .ret (.bl (!memD x xs)) else .fail
  | x, .tup xs => if x.pl 63 && D.plL 63 xs then .ret (.bl (!memD x xs)) else .fail
  | .str x, .str y => .ret (.bl (!strIn x y))
  | _, _ => .fail
def rInT (K : PySem.W.Frag) (neg : Bool) : R2 := fun x y H Q => ∃ d ds, Dp K H x d ∧ Dp K H y (.tuple ds) ∧ SeqAt.shaped d = true ∧ SeqAt.shaped (.tuple ds) = true ∧ Q (.bl (if neg then !ds.any fun z => PyData.eqv z d else ds.any fun z => PyData.eqv z d)) H
theorem room_inT {A : Around} {ds : List PyData} {d : PyData} (h : SeqAt.shaped d = true) (hu : A.units + 65 < cLine) : A.units + 1 + min (PyData.depthAll ds) d.depth < cLine := by
  have h1 := SeqAt.depth_of_shaped h
  have h2 : min (PyData.depthAll ds) d.depth ≤ d.depth := Nat.min_le_right _ _
  omega
theorem op_inT (hu : X.A.units + 65 < cLine) : OpR X (compareOp .In) (rInT X.K false) := by
  intro pins s σ H x y v u Q I rx ry h
  obtain ⟨d, ds, hd, he, sd, se, q⟩ := h
  obtain ⟨as, r1⟩ := Dp.reads I d x v hd rx
  obtain ⟨bs, r2⟩ := Dp.reads I (.tuple ds) y u he ry
  exact SeqAt.in_tuple_reads r2 r1 (SeqAt.canLay_of_shaped se) (SeqAt.canLay_of_shaped sd) (room_inT sd hu) ⟨.bl _, H, I, rfl, q⟩
theorem op_notInT (hu : X.A.units + 65 < cLine) : OpR X (compareOp .NotIn) (rInT X.K true) := by
  intro pins s σ H x y v u Q I rx ry h
  obtain ⟨d, ds, hd, he, sd, se, q⟩ := h
  obtain ⟨as, r1⟩ := Dp.reads I d x v hd rx
  obtain ⟨bs, r2⟩ := Dp.reads I (.tuple ds) y u he ry
  exact SeqAt.notIn_tuple_reads r2 r1 (SeqAt.canLay_of_shaped se) (SeqAt.canLay_of_shaped sd) (room_inT sd hu) ⟨.bl _, H, I, rfl, q⟩
theorem any_memD (x : D) (hx : x.pl 63 = true) : ∀ (xs : List D), D.plL 63 xs = true → ((D.pyL xs).any fun z => PyData.eqv z x.py) = memD x xs
  | [], _ => rfl
  | y :: ys, h => by
    simp only [D.plL, Bool.and_eq_true] at h
    show (PyData.eqv y.py x.py || (D.pyL ys).any _) = (D.beq y x || memD x ys)
    rw [D.eqv_beq 63 y x h.1 hx, any_memD x hx ys h.2]
mutual
theorem D.pl_succ : ∀ (n : Nat) (d : D), d.pl n = true → d.pl (n + 1) = true
  | n, .non, _ => by simp [D.pl]
  | n, .int i, _ => by simp [D.pl]
  | n, .str i, _ => by simp [D.pl]
  | n, .bl i, h => by simp [D.pl] at h
  | n, .dct _ i, h => by simp [D.pl] at h
  | n, .stt, h => by simp [D.pl] at h
  | 0, .tup xs, h => by simp [D.pl] at h
  | 0, .lst xs, h => by simp [D.pl] at h
  | n + 1, .tup xs, h => by simp only [D.pl] at h ⊢; exact D.plL_succ n xs h
  | n + 1, .lst xs, h => by simp only [D.pl] at h ⊢; exact D.plL_succ n xs h
theorem D.plL_succ : ∀ (n : Nat) (d : List D), D.plL n d = true → D.plL (n + 1) d = true
  | n, [], _ => by simp [D.plL]
  | n, x :: xs, h => by
    simp only [D.plL, Bool.and_eq_true] at h ⊢
    exact ⟨D.pl_succ n x h.1, D.plL_succ n xs h.2⟩
end
theorem o_in (hu : X.A.units + 65 < cLine) : OpD S X (compareOp .In) dIn := ⟨_, (op_inD hu).or ((op_inT hu).or op_in_str), fun G F σ H env x y d e Q g r1 r2 q => by
  have hs : ∀ {xs : List D}, D.plL 63 xs = true → (D.lst xs).pl 64 = true ∧ (D.tup xs).pl 64 = true := fun h => ⟨h, h⟩
  cases e with
  | lst xs =>
    have q' : (if d.pl 63 && D.plL 63 xs then M.ret (D.bl (memD d xs)) else M.fail).wp (Post S G F σ env Q) := by cases d <;> exact q
    split at q'
    · rename_i hc
      rw [Bool.and_eq_true] at hc
      obtain ⟨p1, s1⟩ := r1.shaped (K := X.K) g (D.pl_succ _ _ hc.1)
      obtain ⟨p2, s2⟩ := r2.shaped (K := X.K) g (hs hc.2).1
      exact .inl ⟨_, D.pyL xs, p1, by simpa only [D.py] using p2, s1, by simpa only [D.py] using s2, by rw [any_memD d hc.1 xs hc.2]; exact Post.now q' g (.bl _)⟩
    · exact q'.elim
  | tup xs =>
    have q' : (if d.pl 63 && D.plL 63 xs then M.ret (D.bl (memD d xs)) else M.fail).wp (Post S G F σ env Q) := by cases d <;> exact q
    split at q'
    · rename_i hc
      rw [Bool.and_eq_true] at hc
      obtain ⟨p1, s1⟩ := r1.shaped (K := X.K) g (D.pl_succ _ _ hc.1)
      obtain ⟨p2, s2⟩ := r2.shaped (K := X.K) g (hs hc.2).2
      exact .inr (.inl ⟨_, D.pyL xs, p1, by simpa only [D.py] using p2, s1, by simpa only [D.py] using s2, by rw [if_neg (by decide), any_memD d hc.1 xs hc.2]; exact Post.now q' g (.bl _)⟩)
    · exact q'.elim
  | str y =>
    cases d with
    | str x =>
      obtain ⟨rfl, _⟩ := r1.str g
      obtain ⟨rfl, _⟩ := r2.str g
      exact .inr (.inr ⟨x, y, rfl, rfl, Post.now q g (.bl _)⟩)
    | _ => exact q.elim
  | _ => cases d <;> exact q.elim⟩
theorem o_notIn (hu : X.A.units + 65 < cLine) : OpD S X (compareOp .NotIn) dNotIn := ⟨_, (op_notInD hu).or ((op_notInT hu).or L2.op_notin_str), fun G F σ H env x y d e Q g r1 r2 q => by
  have hs : ∀ {xs : List D}, D.plL 63 xs = true → (D.lst xs).pl 64 = true ∧ (D.tup xs).pl 64 = true := fun h => ⟨h, h⟩
  cases e with
  | lst xs =>
    have q' : (if d.pl 63 && D.plL 63 xs then M.ret (D.bl (!memD d xs)) else M.fail).wp (Post S G F σ env Q) := by cases d <;> exact q
    split at q'
    · rename_i hc
      rw [Bool.and_eq_true] at hc
      obtain ⟨p1, s1⟩ := r1.shaped (K := X.K) g (D.pl_succ _ _ hc.1)
      obtain ⟨p2, s2⟩ := r2.shaped (K := X.K) g (hs hc.2).1
      exact .inl ⟨_, D.pyL xs, p1, by simpa only [D.py] using p2, s1, by simpa only [D.py] using s2, by rw [any_memD d hc.1 xs hc.2]; exact Post.now q' g (.bl _)⟩
    · exact q'.elim
  | tup xs =>
    have q' : (if d.pl 63 && D.plL 63 xs then M.ret (D.bl (!memD d xs)) else M.fail).wp (Post S G F σ env Q) := by cases d <;> exact q
    split at q'
    · rename_i hc
      rw [Bool.and_eq_true] at hc
      obtain ⟨p1, s1⟩ := r1.shaped (K := X.K) g (D.pl_succ _ _ hc.1)
      obtain ⟨p2, s2⟩ := r2.shaped (K := X.K) g (hs hc.2).2
      exact .inr (.inl ⟨_, D.pyL xs, p1, by simpa only [D.py] using p2, s1, by simpa only [D.py] using s2, by rw [if_pos rfl, any_memD d hc.1 xs hc.2]; exact Post.now q' g (.bl _)⟩)
    · exact q'.elim
  | str y =>
    cases d with
    | str x =>
      obtain ⟨rfl, _⟩ := r1.str g
      obtain ⟨rfl, _⟩ := r2.str g
      exact .inr (.inr ⟨x, y, rfl, rfl, Post.now q g (.bl _)⟩)
    | _ => exact q.elim
  | _ => cases d <;> exact q.elim⟩

/-! ### + -/
theorem addPost_tup {xs ys : List D} (g : Good S G F σ H env) {x y : V} (r1 : RdB S F σ env (.tup xs) x) (r2 : RdB S F σ env (.tup ys) y) (hz : xs.length + ys.length ≤ sizeLine) (q : Post S G F σ env Q (.tup (xs ++ ys))) : rCatA X.K x y H Q := by
  have w1 := r1.rpl g
  have w2 := r2.rpl g
  obtain ⟨p, vs, rfl, f1, h1, l1, z1⟩ := r1.tup g
  obtain ⟨p', us, rfl, f2, h2, l2, z2⟩ := r2.tup g
  have n1 := l1.len
  have n2 := l2.len
  refine ⟨p, p', vs, us, rfl, rfl, .of h1, .of h2, by omega, fun e => ?_, fun e1 e2 => ?_, fun e1 e2 t ht => ?_⟩
  · subst e
    cases l1
    exact q.now g w2
  · subst e2
    cases l2
    rw [List.append_nil] at q
    exact q.now g w1
  · exact q.tup g ht (l1.append l2) (by rw [List.length_append]; omega)
theorem o_add : OpD S X (binaryOp .Add) dAdd := ⟨_, op_add.or (op_add_str.or (op_catA.or op_cat)), fun G F σ H env x y d e Q g r1 r2 q => by
  cases d with
  | int i =>
    cases e with
    | int j =>
      obtain rfl := r1.int g
      obtain rfl := r2.int g
      exact .inl ⟨i, j, rfl, rfl, Post.now q g (.int _)⟩
    | _ => exact q.elim
  | str i =>
    cases e with
    | str j =>
      obtain ⟨rfl, o1, _⟩ := r1.str g
      obtain ⟨rfl, o2, _⟩ := r2.str g
      simp only [dAdd] at q
      split at q
      · rename_i hz
        refine .inr (.inl ⟨i, j, rfl, rfl, hz, Post.now q g (.str _ (strOk_append o1 o2) ?_)⟩)
        have e : (i ++ j).length = i.length + j.length := by
          show (i.cps ++ j.cps).size = _
          rw [Array.size_append]; rfl
        rw [e]; exact hz
      · exact q.elim
    | _ => exact q.elim
  | tup xs =>
    cases e with
    | tup ys =>
      simp only [dAdd] at q
      split at q
      · exact .inr (.inr (.inl (addPost_tup g r1 r2 (by assumption) q)))
      · exact q.elim
    | _ => exact q.elim
  | lst xs =>
    cases e with
    | lst ys =>
      simp only [dAdd] at q
      split at q
      · obtain ⟨p, vs, rfl, h1, l1, z1⟩ := r1.lst g
        obtain ⟨p', us, rfl, h2, l2, z2⟩ := r2.lst g
        have n1 := l1.len
        have n2 := l2.len
        exact .inr (.inr (.inr ⟨p, p', vs, us, rfl, rfl, h1, h2, by omega, fun t ht => Post.lst q g ht (l1.append l2) (by rw [List.length_append]; omega)⟩))
      · exact q.elim
    | _ => exact q.elim
  | _ => exact q.elim⟩
theorem o_cat : OpF S X (binaryOp .Add) dCat := ⟨_, op_cat, fun G F σ H env x y d e Q g r1 r2 q => by
  cases d with
  | lst xs =>
    cases e with
    | lst ys =>
      simp only [dCat] at q
      split at q
      · obtain ⟨p, vs, rfl, h1, l1, z1⟩ := r1.lst g
        obtain ⟨p', us, rfl, h2, l2, z2⟩ := r2.lst g
        have n1 := l1.len
        have n2 := l2.len
        exact ⟨p, p', vs, us, rfl, rfl, h1, h2, by omega, fun t ht => PostF.lst q g ht (l1.append l2) (by rw [List.length_append]; omega)⟩
      · exact q.elim
    | _ => exact q.elim
  | _ => exact q.elim⟩
end
end DL

set_option Elab.async false
set_option linter.all false
set_option maxRecDepth 100000
/-! DL3d: dicts by trees: keys that are ints and texts, or tuples of such. -/
namespace DL
open PySem PySem.Spec L2
open PyProof.Rows hiding St

def D.isKey : D → Bool
  | .int _ => true
  | .str _ => true
  | _ => false
def valD (kvs : List (D × D)) (k : D) : Option D := (kvs.find? fun p => D.beq p.1 k).map (·.2)
def putD (kvs : List (D × D)) (k e : D) : List (D × D) := if kvs.any (fun p => D.beq p.1 k) then kvs.map (fun p => if D.beq p.1 k then (p.1, e) else p) else kvs ++ [(k, e)]
/-- may this be a key of such a dict -/
def keyOk : Bool → D → Bool
  | false, d => d.isKey
  | true, .tup ks => ks.all D.isKey
  | true, _ => false
theorem KeyD.pl {d : D} {k : Key} (h : KeyD d k) : d.pl 0 = true := by
  rcases h with ⟨i, rfl, _⟩ | ⟨x, rfl, _⟩ <;> simp [D.pl]
theorem KeyD.eq_iff {d e : D} {k l : Key} (h : KeyD d k) (h' : KeyD e l) : d = e ↔ k = l := by
  rcases h with ⟨i, rfl, rfl⟩ | ⟨x, rfl, rfl, _⟩ <;> rcases h' with ⟨j, rfl, rfl⟩ | ⟨y, rfl, rfl, _⟩ <;> simp
theorem KeyD.beq {d e : D} {k l : Key} (h : KeyD d k) (h' : KeyD e l) : D.beq d e = decide (k = l) := by
  have q := (D.beq_eq 0 d e h.pl).trans (h.eq_iff h')
  by_cases z : k = l
  · rw [decide_eq_true z]; exact q.mpr z
  · rw [decide_eq_false z]; cases hb : D.beq d e with
    | false => rfl
    | true => exact absurd (q.mp hb) z
theorem KeysD.beqL : ∀ {ds es : List D} {ks ls : List Key}, KeysD ds ks → KeysD es ls → D.beqL ds es = decide (ks = ls)
  | [], [], [], [], _, _ => by simp [D.beqL]
  | [], _ :: _, [], _ :: _, _, _ => by simp [D.beqL]
  | _ :: _, [], _ :: _, [], _, _ => by simp [D.beqL]
  | d :: ds, e :: es, k :: ks, l :: ls, h, h' => by
    show (D.beq d e && D.beqL ds es) = _
    rw [h.1.beq h'.1, KeysD.beqL h.2 h'.2]
    by_cases z : k = l <;> by_cases z' : ks = ls <;> simp [z, z']
  | [], _, _ :: _, _, h, _ => h.elim
  | _ :: _, _, [], _, h, _ => h.elim
  | [], [], [], _ :: _, _, h => h.elim
  | [], _ :: _, [], [], _, h => h.elim
  | _ :: _, [], _ :: _, _ :: _, _, h => h.elim
  | _ :: _, _ :: _, _ :: _, [], _, h => h.elim
section
variable {S : SA} {X : Cx} {G F G' F' H H' : Hp} {σ : L2.St} {env : DEnv} {d e : D} {v u : V} {p : Addr} {Q : VK}
def RpO (S : SA) (F : Hp) : Option D → Option V → Prop
  | some d, some v => Rp S F d v
  | none, none => True
  | _, _ => False
theorem RpK.val : ∀ {kvs : List (D × D)} {es : List (Key × V)} {d : D} {k : Key}, RpK S F kvs es → KeyD d k → RpO S F (valD kvs d) (valV es k)
  | _, _, _, _, .nil, _ => trivial
  | _, _, d, k, .cons (kd := kd) (k := k') hk hr ht, h => by
    unfold valD valV
    rw [List.find?_cons, List.find?_cons]
    simp only
    rw [hk.beq h]
    cases decide (k' = k) with
    | true => exact hr
    | false => exact RpK.val ht h
theorem RpT.val : ∀ {kvs : List (D × D)} {es : List (List Key × V)} {ds : List D} {k : List Key}, RpT S F kvs es → KeysD ds k → RpO S F (valD kvs (.tup ds)) (valV es k)
  | _, _, _, _, .nil, _ => trivial
  | _, _, d, k, .cons (kds := kds) (ks := k') hk hr ht, h => by
    unfold valD valV
    rw [List.find?_cons, List.find?_cons]
    simp only [D.beq]
    rw [hk.beqL h]
    cases decide (k' = k) with
    | true => exact hr
    | false => exact RpT.val ht h
theorem RpK.any : ∀ {kvs : List (D × D)} {es : List (Key × V)} {d : D} {k : Key}, RpK S F kvs es → KeyD d k → (kvs.any fun p => D.beq p.1 d) = es.any fun kv => decide (kv.1 = k)
  | _, _, _, _, .nil, _ => rfl
  | _, _, d, k, .cons hk hr ht, h => by
    rw [List.any_cons, List.any_cons, RpK.any ht h]
    simp only
    rw [hk.beq h]
theorem RpT.any : ∀ {kvs : List (D × D)} {es : List (List Key × V)} {ds : List D} {k : List Key}, RpT S F kvs es → KeysD ds k → (kvs.any fun p => D.beq p.1 (.tup ds)) = es.any fun kv => decide (kv.1 = k)
  | _, _, _, _, .nil, _ => rfl
  | _, _, d, k, .cons hk hr ht, h => by
    rw [List.any_cons, List.any_cons, RpT.any ht h]
    simp only [D.beq]
    rw [hk.beqL h]
theorem RpK.mapPut {d e : D} {k : Key} {u : V} (hk : KeyD d k) (hr : Rp S F e u) : ∀ {kvs : List (D × D)} {es : List (Key × V)}, RpK S F kvs es → RpK S F (kvs.map fun p => if D.beq p.1 d then (p.1, e) else p) (es.map fun kv => if kv.1 = k then (kv.1, u) else kv)
  | _, _, .nil => .nil
  | _, _, .cons (kd := kd) (k := k') h1 h2 h3 => by
    rw [List.map_cons, List.map_cons]
    simp only
    have q := h1.beq hk
    by_cases z : k' = k
    · rw [decide_eq_true z] at q
      rw [if_pos q, if_pos z]
      exact .cons h1 hr (RpK.mapPut hk hr h3)
    · rw [decide_eq_false z] at q
      rw [if_neg (by rw [q]; simp), if_neg z]
      exact .cons h1 h2 (RpK.mapPut hk hr h3)
theorem RpT.mapPut {ds : List D} {e : D} {k : List Key} {u : V} (hk : KeysD ds k) (hr : Rp S F e u) : ∀ {kvs : List (D × D)} {es : List (List Key × V)}, RpT S F kvs es → RpT S F (kvs.map fun p => if D.beq p.1 (.tup ds) then (p.1, e) else p) (es.map fun kv => if kv.1 = k then (kv.1, u) else kv)
  | _, _, .nil => .nil
  | _, _, .cons (kds := kd) (ks := k') h1 h2 h3 => by
    rw [List.map_cons, List.map_cons]
    have q : (D.tup kd).beq (.tup ds) = decide (k' = k) := by
      have := h1.beqL hk
      rw [D.beq]
      exact this
    by_cases z : k' = k
    · rw [decide_eq_true z] at q
      rw [if_pos (show (D.tup kd).beq (.tup ds) = true from q), if_pos z]
      exact .cons h1 hr (RpT.mapPut hk hr h3)
    · rw [decide_eq_false z] at q
      rw [if_neg (show ¬ (D.tup kd).beq (.tup ds) = true by rw [q]; simp), if_neg z]
      exact .cons h1 h2 (RpT.mapPut hk hr h3)
theorem RpK.append : ∀ {kvs kvs' : List (D × D)} {es es' : List (Key × V)}, RpK S F kvs es → RpK S F kvs' es' → RpK S F (kvs ++ kvs') (es ++ es')
  | _, _, _, _, .nil, s => s
  | _, _, _, _, .cons a b t, s => .cons a b (RpK.append t s)
theorem RpT.append : ∀ {kvs kvs' : List (D × D)} {es es' : List (List Key × V)}, RpT S F kvs es → RpT S F kvs' es' → RpT S F (kvs ++ kvs') (es ++ es')
  | _, _, _, _, .nil, s => s
  | _, _, _, _, .cons a b t, s => .cons a b (RpT.append t s)
theorem RpK.len : ∀ {kvs : List (D × D)} {es : List (Key × V)}, RpK S F kvs es → kvs.length = es.length
  | _, _, .nil => rfl
  | _, _, .cons _ _ t => congrArg (· + 1) (RpK.len t)
theorem RpT.len : ∀ {kvs : List (D × D)} {es : List (List Key × V)}, RpT S F kvs es → kvs.length = es.length
  | _, _, .nil => rfl
  | _, _, .cons _ _ t => congrArg (· + 1) (RpT.len t)
theorem RpK.put {kvs : List (D × D)} {es : List (Key × V)} {d e : D} {k : Key} {u : V} (r : RpK S F kvs es) (hk : KeyD d k) (hr : Rp S F e u) : RpK S F (putD kvs d e) (putK es k u) := by
  unfold putD putK
  rw [r.any hk]
  split
  · exact RpK.mapPut hk hr r
  · exact r.append (.cons hk hr .nil)
theorem RpT.put {kvs : List (D × D)} {es : List (List Key × V)} {ds : List D} {e : D} {k : List Key} {u : V} (r : RpT S F kvs es) (hk : KeysD ds k) (hr : Rp S F e u) : RpT S F (putD kvs (.tup ds) e) (putK es k u) := by
  unfold putD putK
  rw [r.any hk]
  split
  · exact RpT.mapPut hk hr r
  · exact r.append (.cons hk hr .nil)
theorem putK_le {κ : Type} [DecidableEq κ] (es : List (κ × V)) (k : κ) (u : V) : (putK es k u).length ≤ es.length + 1 := by
  unfold putK
  split
  · rw [List.length_map]; omega
  · rw [List.length_append, List.length_singleton]; omega
/-- a key as it lies -/
theorem key_of_isKey (h : d.isKey = true) (r : Rp S F d v) : ∃ k, KeyD d k ∧ v = kV k := by
  cases d with
  | int i => cases r; exact ⟨.inl i, .inl ⟨i, rfl, rfl⟩, rfl⟩
  | str x => cases r with
    | str _ h1 h2 => exact ⟨.inr x, .inr ⟨x, rfl, rfl, h1, h2⟩, rfl⟩
  | _ => cases h
theorem keys_of_all : ∀ {ds : List D} {vs : List V}, ds.all D.isKey = true → RpL S F ds vs → ∃ ks, KeysD ds ks ∧ vs = ks.map kV
  | [], _, _, r => by cases r; exact ⟨[], trivial, rfl⟩
  | d :: ds, _, h, r => by
    cases r with
    | cons r t =>
      rw [List.all_cons, Bool.and_eq_true] at h
      obtain ⟨k, h1, rfl⟩ := key_of_isKey h.1 r
      obtain ⟨ks, h2, rfl⟩ := keys_of_all h.2 t
      exact ⟨k :: ks, ⟨h1, h2⟩, rfl⟩
theorem RdB.dctK {kvs : List (D × D)} (g : Good S G F σ H env) (h : RdB S F σ env (.dct false kvs) v) : ∃ p es, v = .ref p ∧ Rd H p (.dK es) ∧ RpK S F kvs es ∧ es.length ≤ sizeLine := by
  rcases h.elim g with h | ⟨a, rfl, es, h4, h5, h6⟩
  · cases h with
    | dctK h1 h2 h3 => exact ⟨_, _, rfl, .inr ⟨_, g.fh _ _ h1⟩, h2, h3⟩
  · exact ⟨_, es, rfl, .inl h4, h5, h6⟩
theorem RdB.dctT {kvs : List (D × D)} (g : Good S G F σ H env) (h : RdB S F σ env (.dct true kvs) v) : ∃ p es, v = .ref p ∧ Rd H p (.dT es) ∧ RpT S F kvs es ∧ es.length ≤ sizeLine := by
  rcases h.elim g with h | ⟨a, rfl, es, h4, h5, h6⟩
  · cases h with
    | dctT h1 h2 h3 => exact ⟨_, _, rfl, .inr ⟨_, g.fh _ _ h1⟩, h2, h3⟩
  · exact ⟨_, es, rfl, .inl h4, h5, h6⟩
theorem keyOk_mut {t : Bool} (h : keyOk t d = true) : d.mut = false := by
  cases t <;> cases d <;> simp [keyOk, D.isKey, D.mut] at h ⊢
/-- a look into a dict -/
theorem dget_of {t : Bool} {kvs : List (D × D)} (g : Good S G F σ H env) (r1 : RdB S F σ env (.dct t kvs) v) (r2 : RdB S F σ env d u) (hk : keyOk t d = true) : ∃ a o, v = .ref a ∧ DGet H a u o ∧ IsD H a ∧ RpO S F (valD kvs d) o := by
  have r2 := r2.rp g (keyOk_mut hk)
  cases t with
  | false =>
    obtain ⟨p, es, rfl, h1, h2, _⟩ := r1.dctK g
    obtain ⟨k, k1, rfl⟩ := key_of_isKey hk r2
    exact ⟨p, _, rfl, .inl ⟨es, k, h1, rfl, rfl⟩, .inl ⟨es, h1⟩, h2.val k1⟩
  | true =>
    cases d with
    | tup ds =>
      cases r2 with
      | tup f1 f2 f3 =>
        obtain ⟨p, es, rfl, h1, h2, _⟩ := r1.dctT g
        obtain ⟨ks, k1, rfl⟩ := keys_of_all hk f2
        exact ⟨p, _, rfl, .inr ⟨es, ks, _, h1, rfl, g.fh _ _ f1, rfl⟩, .inr ⟨es, h1⟩, h2.val k1⟩
    | _ => cases hk
/-- in, not in, d[k] by values -/
def rInDct : R2 := fun x y H Q => ∃ a o, y = .ref a ∧ DGet H a x o ∧ Q (.bl o.isSome) H
def rNotInDct : R2 := fun x y H Q => ∃ a o, y = .ref a ∧ DGet H a x o ∧ Q (.bl (!o.isSome)) H
theorem op_inDct (hu : X.A.units + 1 < cLine) : OpR X (compareOp .In) rInDct := by
  intro pins s σ H x y v u Q I rx ry h
  obtain ⟨a, o, rfl, g, q⟩ := h
  cases ry
  exact d_in hu I g rx fun s' I' => ⟨.bl _, H, I', rfl, q⟩
theorem op_notInDct (hu : X.A.units + 1 < cLine) : OpR X (compareOp .NotIn) rNotInDct := by
  intro pins s σ H x y v u Q I rx ry h
  obtain ⟨a, o, rfl, g, q⟩ := h
  cases ry
  exact d_notIn hu I g rx fun s' I' => ⟨.bl _, H, I', rfl, q⟩
def rIxDct : R2 := fun x y H Q => ∃ a v, x = .ref a ∧ DGet H a y (some v) ∧ Q v H
theorem ix_dct (hu : X.A.units + 1 < cLine) : IxR X rIxDct := by
  intro value slice pins s σ H x y v u Q I rx ry h hs
  obtain ⟨a, z, rfl, g, q⟩ := h
  cases rx
  exact PyProof.Rows.tail_any (dict_typeIs I g) PySem.F.slot_dict_getitem.lookup (d_getItem hu I g ry fun w' s' I' r => ⟨z, H, I', r, q⟩) hs
def dInX : D → D → M D
  | x, .dct t kvs => if keyOk t x then .ret (.bl (valD kvs x).isSome) else .fail
  | x, y => dIn x y
def dNotInX : D → D → M D
  | x, .dct t kvs => if keyOk t x then .ret (.bl (!(valD kvs x).isSome)) else .fail
  | x, y => dNotIn x y
theorem RpO.isSome {o : Option D} {w : Option V} (h : RpO S F o w) : w.isSome = o.isSome := by
  cases o <;> cases w <;> first | rfl | exact h.elim
theorem o_inX (hu : X.A.units + 65 < cLine) : OpD S X (compareOp .In) dInX := by
  obtain ⟨r, hr, k⟩ := o_in (S := S) hu
  refine ⟨_, hr.or (op_inDct (by omega)), fun G F σ H env x y d e Q g r1 r2 q => ?_⟩
  cases e with
  | dct t kvs =>
    have q' : (if keyOk t d then M.ret (D.bl (valD kvs d).isSome) else M.fail).wp (Post S G F σ env Q) := by cases d <;> exact q
    split at q'
    · obtain ⟨a, o, e1, e2, _, e3⟩ := dget_of g r2 r1 (by assumption)
      exact .inr ⟨a, o, e1, e2, by rw [e3.isSome]; exact Post.now q' g (.bl _)⟩
    · exact q'.elim
  | _ => exact .inl (k G F σ H env x y d _ Q g r1 r2 (by cases d <;> exact q))
theorem o_notInX (hu : X.A.units + 65 < cLine) : OpD S X (compareOp .NotIn) dNotInX := by
  obtain ⟨r, hr, k⟩ := o_notIn (S := S) hu
  refine ⟨_, hr.or (op_notInDct (by omega)), fun G F σ H env x y d e Q g r1 r2 q => ?_⟩
  cases e with
  | dct t kvs =>
    have q' : (if keyOk t d then M.ret (D.bl (!(valD kvs d).isSome)) else M.fail).wp (Post S G F σ env Q) := by cases d <;> exact q
    split at q'
    · obtain ⟨a, o, e1, e2, _, e3⟩ := dget_of g r2 r1 (by assumption)
      exact .inr ⟨a, o, e1, e2, by rw [e3.isSome]; exact Post.now q' g (.bl _)⟩
    · exact q'.elim
  | _ => exact .inl (k G F σ H env x y d _ Q g r1 r2 (by cases d <;> exact q))
end
end DL

set_option Elab.async false
set_option linter.all false
set_option maxRecDepth 100000
/-! DL4: tests, displays, subscripts, slices, calls of what is built in. -/
namespace DL
open PySem PySem.Spec L2
open PyProof.Rows hiding St

abbrev DT := DEnv → M Bool
abbrev DA := DEnv → M (List D)
def PostT (S : SA) (G F : Hp) (σ : L2.St) (env : DEnv) (Q : Bool → Hp → Prop) (b : Bool) : Prop := ∀ G' F' H', Ext G F G' F' → Good S G' F' σ H' env → Q b H'
def TT_ (S : SA) (m : DT) : TT := fun σ H Q => ∃ G F env, Good S G F σ H env ∧ (m env).wp (PostT S G F σ env Q)
def QT (S : SA) (X : Cx) (e : Expr) (m : DT) : Prop := PT X e (TT_ S m)
def QW (S : SA) (X : Cx) (e : Expr) (m : DT) : Prop := PW X e (TT_ S m)
abbrev RdBL (S : SA) (F : Hp) (σ : L2.St) (env : DEnv) : List D → List V → Prop := Paired (RdB S F σ env)
def PostA (S : SA) (G F : Hp) (σ : L2.St) (env : DEnv) (Q : List V → Hp → Prop) (ds : List D) : Prop := ∀ vs G' F' H', Ext G F G' F' → Good S G' F' σ H' env → RdBL S F' σ env ds vs → Q vs H'
def TAB_ (S : SA) (m : DA) : TA := fun σ H Q => ∃ G F env, Good S G F σ H env ∧ (m env).wp (PostA S G F σ env Q)
def QAB (S : SA) (X : Cx) (es : List Expr) (m : DA) : Prop := PA X es (TAB_ S m)
def PostAE (S : SA) (G F : Hp) (σ : L2.St) (env : DEnv) (Q : List V → Hp → Prop) (ds : List D) : Prop := ∀ vs G' F' H', Ext G F G' F' → Good S G' F' σ H' env → RpL S F' ds vs → Q vs H'
def TAE_ (S : SA) (m : DA) : TA := fun σ H Q => ∃ G F env, Good S G F σ H env ∧ (m env).wp (PostAE S G F σ env Q)
def QA (S : SA) (X : Cx) (es : List Expr) (m : DA) : Prop := PA X es (TAE_ S m)

section
variable {S : SA} {X : Cx} {G F G' F' H H' : Hp} {σ : L2.St} {env : DEnv} {d : D} {v : V} {p : Addr} {Q : VK} {m ma mb mc : DE} {t ta tb : DT} {ms : DA} {a b c e : Expr} {es rest : List Expr} {pos : Pos}
theorem postT_shift {Q : Bool → Hp → Prop} {k : Bool} {G1 F1 : Hp} (x : Ext G F G1 F1) (h : PostT S G F σ env Q k) : PostT S G1 F1 σ env Q k := fun G' F' H' e g => h G' F' H' (x.trans e) g
theorem postA_shift {Q : List V → Hp → Prop} {k : List D} {G1 F1 : Hp} (x : Ext G F G1 F1) (h : PostA S G F σ env Q k) : PostA S G1 F1 σ env Q k := fun vs G' F' H' e g r => h vs G' F' H' (x.trans e) g r
theorem postAE_shift {Q : List V → Hp → Prop} {k : List D} {G1 F1 : Hp} (x : Ext G F G1 F1) (h : PostAE S G F σ env Q k) : PostAE S G1 F1 σ env Q k := fun vs G' F' H' e g r => h vs G' F' H' (x.trans e) g r
/-! ### comparisons as values, as tests; chains -/
def asB : D → M Bool
  | .bl b => .ret b
  | _ => .fail
theorem asB_wp {P : Bool → Prop} {d : D} (h : (asB d).wp P) : ∃ b, d = .bl b ∧ P b := by
  cases d with
  | bl b => exact ⟨b, rfl, h⟩
  | _ => exact h.elim
theorem qcmp {o : CmpOp} {op : D → D → M D} (ho : OpD S X (compareOp o) op) (ha : QB S X a ma) (hb : QB S X b mb) (hm : behindInMarks o b = false := by first | exact nomark _ | rfl) : QE S X (.Compare a [o] [b] pos) (mBin op ma mb) := by
  obtain ⟨r, hr, k⟩ := ho
  exact pe_weak (pe_cmpR hr ha hb hm) fun σ H Q ⟨G, F, env, g, q⟩ => two ma mb (PP := fun G F => Post S G F σ env Q) g q (fun _ _ _ _ _ => post_shift) fun G F H x y d e g r1 r2 q => k G F σ H env x y d e Q g r1 r2 q
def mBinT (op : D → D → M D) (ma mb : DE) : DT := fun env => mBin op ma mb env >>= asB
theorem postB_of {Q : Bool → Hp → Prop} (h : (asB d).wp (PostT S G F σ env Q)) : Post S G F σ env (fun x H' => ∃ k, x = .bl k ∧ Q k H') d := fun v G' F' H' e g r => by
  obtain ⟨b, rfl, q⟩ := asB_wp h
  cases r
  exact ⟨b, rfl, q G' F' H' e g⟩
theorem qtcmp {o : CmpOp} {op : D → D → M D} (ho : OpD S X (compareOp o) op) (ha : QB S X a ma) (hb : QB S X b mb) (hm : behindInMarks o b = false := by first | exact nomark _ | rfl) : QT S X (.Compare a [o] [b] pos) (mBinT op ma mb) := by
  obtain ⟨r, hr, k⟩ := ho
  exact pt_weak (pt_cmpR hr ha hb hm) fun σ H Q ⟨G, F, env, g, q⟩ => two ma mb (PP := fun G F => Post S G F σ env _) g (M.wp_mono (M.wpb q) fun d => postB_of) (fun _ _ _ _ _ => post_shift) fun G F H x y d e g r1 r2 q => k G F σ H env x y d e _ g r1 r2 q
def mChain (op op' : D → D → M D) (ma mb mc : DE) : DE := fun env => ma env >>= fun x => mb env >>= fun y => op x y >>= asB >>= fun k => if k then mc env >>= fun z => op' y z else .ret (.bl false)
theorem chain_core {op op' : D → D → M D} {r r' : R2}
    (k : ∀ (G F : Hp) (σ : L2.St) (H : Hp) (env : DEnv) (x y : V) (d e : D) (Q : VK), Good S G F σ H env → RdB S F σ env d x → RdB S F σ env e y → (op d e).wp (Post S G F σ env Q) → r x y H Q)
    (k' : ∀ (G F : Hp) (σ : L2.St) (H : Hp) (env : DEnv) (x y : V) (d e : D) (Q : VK), Good S G F σ H env → RdB S F σ env d x → RdB S F σ env e y → (op' d e).wp (Post S G F σ env Q) → r' x y H Q)
    (g : Good S G F σ H env) (q : (mChain op op' ma mb mc env).wp (Post S G F σ env Q)) : tChain r r' (TB_ S ma) (TB_ S mb) (TB_ S mc) σ H Q := by
  refine ⟨G, F, env, g, M.wp_mono (M.wpb q) fun d q x G1 F1 H1 e1 g1 r1 => ⟨G1, F1, env, g1, M.wp_mono (M.wpb q) fun d2 q y G2 F2 H2 e2 g2 r2 => ?_⟩⟩
  refine k G2 F2 σ H2 env x y d d2 _ g2 (r1.mono e2.f) r2 (M.wp_mono (M.wpb (M.wpb q)) fun d3 q z G3 F3 H3 e3 g3 r3 => ?_)
  obtain ⟨kk, ek, q'⟩ := asB_wp q
  subst ek
  cases r3
  refine ⟨kk, rfl, ?_⟩
  cases kk with
  | true =>
    rw [if_pos rfl] at q' ⊢
    refine ⟨G3, F3, env, g3, M.wp_mono (M.wpb q') fun d4 q w G4 F4 H4 e4 g4 r4 => ?_⟩
    exact k' G4 F4 σ H4 env y w d2 d4 Q g4 (r2.mono (e3.f.trans e4.f)) r4 (M.wp_mono q fun _ => post_shift (e1.trans (e2.trans (e3.trans e4))))
  | false =>
    rw [if_neg (by decide)] at q' ⊢
    exact (post_shift (e1.trans (e2.trans e3)) q').now g3 (.bl _)
theorem qchain {o o' : CmpOp} {op op' : D → D → M D} (ho : OpD S X (compareOp o) op) (ho' : OpD S X (compareOp o') op') (ha : QB S X a ma) (hb : QB S X b mb) (hc : QB S X c mc)
    (hm : lastMarks [o, o'] [b, c] = false := by with_unfolding_all rfl) : QE S X (.Compare a [o, o'] [b, c] pos) (mChain op op' ma mb mc) := by
  obtain ⟨r, hr, k⟩ := ho
  obtain ⟨r', hr', k'⟩ := ho'
  exact pe_weak (pe_chain hr hr' ha hb hc hm) fun σ H Q ⟨G, F, env, g, q⟩ => chain_core k k' g q
def mTE (m : DE) : DT := fun env => m env >>= asB
theorem qtchain {o o' : CmpOp} {op op' : D → D → M D} (ho : OpD S X (compareOp o) op) (ho' : OpD S X (compareOp o') op') (ha : QB S X a ma) (hb : QB S X b mb) (hc : QB S X c mc)
    (hm : lastMarks [o, o'] [b, c] = false := by with_unfolding_all rfl) : QT S X (.Compare a [o, o'] [b, c] pos) (mTE (mChain op op' ma mb mc)) := by
  obtain ⟨r, hr, k⟩ := ho
  obtain ⟨r', hr', k'⟩ := ho'
  exact pt_weak (pt_chain hr hr' ha hb hc hm) fun σ H Q ⟨G, F, env, g, q⟩ => chain_core k k' g (M.wp_mono (M.wpb q) fun d => postB_of)
/-! ### truth -/
def truM : D → M Bool
  | .non => .ret false
  | .bl b => .ret b
  | .int i => .ret (i != 0)
  | .str x => .ret ((x.length : Int) != 0)
  | .tup xs => .ret !xs.isEmpty
  | .lst xs => .ret !xs.isEmpty
  | _ => .fail
def mTru (m : DE) : DT := fun env => m env >>= truM
theorem isE {α β : Type} {xs : List α} {ys : List β} (h : xs.length = ys.length) : (!xs.isEmpty) = !ys.isEmpty := by
  cases xs <;> cases ys <;> simp at h ⊢
theorem tru_of {K : PySem.W.Frag} {P : Bool → Prop} (g : Good S G F σ H env) (r : RdB S F σ env d v) (h : (truM d).wp P) : ∃ k, TruV K v H k ∧ P k := by
  cases d with
  | non => obtain rfl := r.non g; exact ⟨false, rfl, h⟩
  | bl b => obtain rfl := r.bl g; exact ⟨b, rfl, h⟩
  | int b => obtain rfl := r.int g; exact ⟨_, rfl, h⟩
  | str b => obtain ⟨rfl, _, z⟩ := r.str g; exact ⟨_, ⟨z, rfl⟩, h⟩
  | tup xs =>
    obtain ⟨p, vs, rfl, f1, h1, l1, z1⟩ := r.tup g
    exact ⟨_, .inr (.inl ⟨vs, .of h1, (isE l1.len)⟩), h⟩
  | lst xs =>
    obtain ⟨p, vs, rfl, h1, l1, z1⟩ := r.lst g
    exact ⟨_, .inl ⟨vs, .of h1, (isE l1.len)⟩, h⟩
  | dct _ _ => exact h.elim
  | stt => exact h.elim
theorem qtru (ha : QB S X a ma) (he : ∀ whole, isTrue a X.env whole = (do let v ← whole; standAt a.pos; holding [v] (truthy v)) := by intro _; rfl) : QT S X a (mTru ma) :=
  pt_weak (pt_truth ha he) fun σ H Q ⟨G, F, env, g, q⟩ => ⟨G, F, env, g, M.wp_mono (M.wpb q) fun d q v G1 F1 H1 e1 g1 r1 => by
    obtain ⟨k, h1, h2⟩ := tru_of (K := X.K) g1 r1 q
    exact ⟨k, h1, h2 G1 F1 H1 e1 g1⟩⟩
/-! ### and, or, not, if else -/
def mAnd (ta tb : DT) : DT := fun env => ta env >>= fun k => if k then tb env else .ret false
def mOr (ta tb : DT) : DT := fun env => ta env >>= fun k => if k then .ret true else tb env
def mNot (ta : DT) : DT := fun env => ta env >>= fun k => .ret !k
theorem QW.test (h : QW S X e t) : QT S X e t := PW.pt h
theorem qw_and1 (ha : QT S X a ta) : QW S X (.BoolOp .And [a] pos) ta := pw_and1 ha
theorem qw_or1 (ha : QT S X a ta) : QW S X (.BoolOp .Or [a] pos) ta := pw_or1 ha
theorem pw_weak {t t' : TT} (h : PW X e t) (w : ∀ σ H Q, t' σ H Q → t σ H Q) : PW X e t' := ⟨fun wh pins s σ H Q I q => h.run wh pins s σ H Q I (w σ H Q q)⟩
theorem qw_and (ha : QT S X a ta) (hb : QW S X (.BoolOp .And (b :: rest) pos) tb) : QW S X (.BoolOp .And (a :: b :: rest) pos) (mAnd ta tb) :=
  pw_weak (pw_and ha hb) fun σ H Q ⟨G, F, env, g, q⟩ => ⟨G, F, env, g, M.wp_mono (M.wpb q) fun k q G1 F1 H1 e1 g1 => by
    cases k with
    | true => rw [if_pos rfl] at q ⊢; exact ⟨G1, F1, env, g1, M.wp_mono q fun _ => postT_shift e1⟩
    | false => rw [if_neg (by decide)] at q ⊢; exact q G1 F1 H1 e1 g1⟩
theorem qw_or (ha : QT S X a ta) (hb : QW S X (.BoolOp .Or (b :: rest) pos) tb) : QW S X (.BoolOp .Or (a :: b :: rest) pos) (mOr ta tb) :=
  pw_weak (pw_or ha hb) fun σ H Q ⟨G, F, env, g, q⟩ => ⟨G, F, env, g, M.wp_mono (M.wpb q) fun k q G1 F1 H1 e1 g1 => by
    cases k with
    | false => rw [if_neg (by decide)] at q ⊢; exact ⟨G1, F1, env, g1, M.wp_mono q fun _ => postT_shift e1⟩
    | true => rw [if_pos rfl] at q ⊢; exact q G1 F1 H1 e1 g1⟩
theorem qt_not (ha : QT S X a ta) : QT S X (.UnaryOp .Not a pos) (mNot ta) :=
  pt_weak (pt_not ha) fun σ H Q ⟨G, F, env, g, q⟩ => ⟨G, F, env, g, M.wp_mono (M.wpb q) fun k q G1 F1 H1 e1 g1 => q G1 F1 H1 e1 g1⟩
def mIfE (t : DT) (ma mb : DE) : DE := fun env => t env >>= fun k => if k then ma env else mb env
theorem qifE (hc : QT S X c t) (ha : QE S X a ma) (hb : QE S X b mb) : QE S X (.IfExp c a b pos) (mIfE t ma mb) :=
  pe_weak (pe_ifExp hc ha hb) fun σ H Q ⟨G, F, env, g, q⟩ => ⟨G, F, env, g, M.wp_mono (M.wpb q) fun k q G1 F1 H1 e1 g1 => by
    cases k with
    | true => rw [if_pos rfl] at q ⊢; exact ⟨G1, F1, env, g1, M.wp_mono q fun _ => post_shift e1⟩
    | false => rw [if_neg (by decide)] at q ⊢; exact ⟨G1, F1, env, g1, M.wp_mono q fun _ => post_shift e1⟩⟩
/-- and, or as values: by truth -/
def mAndV (ma mb : DE) : DE := fun env => ma env >>= fun x => truM x >>= fun k => if k then mb env else .ret x
def mOrV (ma mb : DE) : DE := fun env => ma env >>= fun x => truM x >>= fun k => if k then .ret x else mb env
theorem qe_one {op} (h : QE S X a m) : QE S X (.BoolOp op [a] pos) m := pe_one h
theorem qandV (ha : QE S X a ma) (hb : QE S X (.BoolOp .And (b :: rest) pos) mb) : QE S X (.BoolOp .And (a :: b :: rest) pos) (mAndV ma mb) :=
  pe_weak (pe_andT ha hb) fun σ H Q ⟨G, F, env, g, q⟩ => ⟨G, F, env, g, M.wp_mono (M.wpb q) fun d q v G1 F1 H1 e1 g1 r1 => by
    obtain ⟨k, h1, h2⟩ := tru_of (K := X.K) g1 (.inl r1) (M.wpb q)
    refine ⟨k, h1, ?_⟩
    cases k with
    | true => rw [if_pos rfl] at h2 ⊢; exact ⟨G1, F1, env, g1, M.wp_mono h2 fun _ => post_shift e1⟩
    | false => rw [if_neg (by decide)] at h2 ⊢; exact (post_shift e1 h2).now g1 r1⟩
theorem qorV (ha : QE S X a ma) (hb : QE S X (.BoolOp .Or (b :: rest) pos) mb) : QE S X (.BoolOp .Or (a :: b :: rest) pos) (mOrV ma mb) :=
  pe_weak (pe_orT ha hb) fun σ H Q ⟨G, F, env, g, q⟩ => ⟨G, F, env, g, M.wp_mono (M.wpb q) fun d q v G1 F1 H1 e1 g1 r1 => by
    obtain ⟨k, h1, h2⟩ := tru_of (K := X.K) g1 (.inl r1) (M.wpb q)
    refine ⟨k, h1, ?_⟩
    cases k with
    | false => rw [if_neg (by decide)] at h2 ⊢; exact ⟨G1, F1, env, g1, M.wp_mono h2 fun _ => post_shift e1⟩
    | true => rw [if_pos rfl] at h2 ⊢; exact (post_shift e1 h2).now g1 r1⟩
def mNotV (ma : DE) : DE := fun env => ma env >>= fun x => truM x >>= fun k => .ret (.bl !k)
theorem qnotV (ha : QB S X a ma) : QE S X (.UnaryOp .Not a pos) (mNotV ma) :=
  pe_weak (pe_notT ha) fun σ H Q ⟨G, F, env, g, q⟩ => ⟨G, F, env, g, M.wp_mono (M.wpb q) fun d q v G1 F1 H1 e1 g1 r1 => by
    obtain ⟨k, h1, h2⟩ := tru_of (K := X.K) g1 r1 (M.wpb q)
    exact ⟨k, h1, (post_shift e1 h2).now g1 (.bl _)⟩⟩
def mNeg (ma : DE) : DE := fun env => ma env >>= fun x => match x with
  | .int i => .ret (.int (-i))
  | _ => .fail
theorem qneg (ha : QB S X a ma) : QE S X (.UnaryOp .USub a pos) (mNeg ma) :=
  pe_weak (pe_un un_neg ha) fun σ H Q ⟨G, F, env, g, q⟩ => ⟨G, F, env, g, M.wp_mono (M.wpb q) fun d q v G1 F1 H1 e1 g1 r1 => by
    cases d with
    | int i =>
      obtain rfl := r1.int g1
      exact ⟨i, rfl, (post_shift e1 q).now g1 (.int _)⟩
    | _ => exact q.elim⟩
/-! ### rows of parts -/
def aNil : DA := fun _ => .ret []
def aCons (m : DE) (ms : DA) : DA := fun env => m env >>= fun x => ms env >>= fun xs => .ret (x :: xs)
theorem qab_nil : QAB S X [] aNil := pa_weak pa_nil fun σ H Q ⟨G, F, env, g, q⟩ => q [] G F H (Ext.refl _ _) g .nil
theorem qab_cons (ha : QB S X e m) (hr : QAB S X es ms) (hs : starEach (e :: es) X.env = (false, eval e X.env) :: starEach es X.env := by rfl) : QAB S X (e :: es) (aCons m ms) :=
  pa_weak (pa_cons ha hr hs) fun σ H Q ⟨G, F, env, g, q⟩ => ⟨G, F, env, g, M.wp_mono (M.wpb q) fun d q v G1 F1 H1 e1 g1 r1 => ⟨G1, F1, env, g1, M.wp_mono (M.wpb q) fun ds q vs G2 F2 H2 e2 g2 r2 =>
    q _ G2 F2 H2 (e1.trans e2) g2 (.cons (r1.mono e2.f) r2)⟩⟩
theorem qa_nil : QA S X [] aNil := pa_weak pa_nil fun σ H Q ⟨G, F, env, g, q⟩ => q [] G F H (Ext.refl _ _) g .nil
theorem qa_cons (ha : QE S X e m) (hr : QA S X es ms) (hs : starEach (e :: es) X.env = (false, eval e X.env) :: starEach es X.env := by rfl) : QA S X (e :: es) (aCons m ms) :=
  pa_weak (pa_cons ha hr hs) fun σ H Q ⟨G, F, env, g, q⟩ => ⟨G, F, env, g, M.wp_mono (M.wpb q) fun d q v G1 F1 H1 e1 g1 r1 => ⟨G1, F1, env, g1, M.wp_mono (M.wpb q) fun ds q vs G2 F2 H2 e2 g2 r2 =>
    q _ G2 F2 H2 (e1.trans e2) g2 (.cons (r1.mono e2.f) r2)⟩⟩
def mTup (ms : DA) : DE := fun env => ms env >>= fun xs => if xs.length ≤ sizeLine then .ret (.tup xs) else .fail
def mLst (ms : DA) : DE := fun env => ms env >>= fun xs => if xs.length ≤ sizeLine then .ret (.lst xs) else .fail
theorem qtup {x1} (h : QA S X es ms) : QE S X (.Tuple es x1 pos) (mTup ms) :=
  pe_weak (pe_tup h) fun σ H Q ⟨G, F, env, g, q⟩ => ⟨G, F, env, g, M.wp_mono (M.wpb q) fun ds q vs G1 F1 H1 e1 g1 r1 => by
    split at q
    · have n := r1.len
      exact ⟨by omega, fun p hp => (post_shift e1 q).tup g1 hp r1 (by omega)⟩
    · exact q.elim⟩
theorem qlst (h : QA S X es ms) : QF S X (.List es pos) (mLst ms) :=
  pe_weak (pe_lst h) fun σ H Q ⟨G, F, env, g, q⟩ => ⟨G, F, env, g, M.wp_mono (M.wpb q) fun ds q vs G1 F1 H1 e1 g1 r1 => by
    split at q
    · have n := r1.len
      exact ⟨by omega, fun p hp => (postF_shift e1 q).lst g1 hp r1 (by omega)⟩
    · exact q.elim⟩
/-! ### subscripts -/
theorem atI_rpl {ds : List D} {vs : List V} {i : Int} {d : D} (r : RpL S F ds vs) (h : atI ds i = some d) : ∃ v, atI vs i = some v ∧ Rp S F d v := by
  unfold atI at h ⊢
  rw [← r.len]
  cases e : ixN ds.length i with
  | none => rw [e] at h; cases h
  | some j => rw [e] at h; exact r.get h
def dIx : D → D → M D
  | .lst xs, .int i => M.opt (atI xs i)
  | .tup xs, .int i => M.opt (atI xs i)
  | .str x, .int i => match atI x.cps.toList i with
    | some c => .ret (.str ⟨#[c]⟩)
    | none => .fail
  | .dct t kvs, k => if keyOk t k then M.opt (valD kvs k) else .fail
  | _, _ => .fail
theorem atI_mem {α : Type} {xs : List α} {i : Int} {v : α} (h : atI xs i = some v) : v ∈ xs := by
  unfold atI at h
  cases e : ixN xs.length i with
  | none => rw [e] at h; cases h
  | some j => rw [e] at h; exact List.mem_of_getElem? h
theorem qix (hu : X.A.units + 1 < cLine) (ha : QB S X a ma) (hb : QB S X b mb) (hs : PlainIx b := by intro _ _; rfl) : QE S X (.Subscript a b pos) (mBin dIx ma mb) :=
  pe_weak (pe_ix ((ix_dct hu).or ix_seq) ha hb hs) fun σ H Q ⟨G, F, env, g, q⟩ => two ma mb (PP := fun G F => Post S G F σ env Q) g q (fun _ _ _ _ _ => post_shift) fun G F H x y d e g r1 r2 q => by
    cases d with
    | dct t kvs =>
      have q' : (if keyOk t e then M.opt (valD kvs e) else M.fail).wp (Post S G F σ env Q) := q
      split at q'
      · obtain ⟨w, hw, q2⟩ := M.wp_opt q'
        obtain ⟨a, o, e1, e2, _, e3⟩ := dget_of g r1 r2 (by assumption)
        rw [hw] at e3
        cases o with
        | none => exact e3.elim
        | some u => exact .inl ⟨a, u, e1, e2, q2.now g e3⟩
      · exact q'.elim
    | lst xs =>
      cases e with
      | int i =>
        obtain ⟨p, vs, rfl, h1, l1, z1⟩ := r1.lst g
        obtain rfl := r2.int g
        obtain ⟨u, hu, q⟩ := M.wp_opt q
        obtain ⟨w, hw, rw'⟩ := atI_rpl l1 hu
        exact .inr (.inl ⟨p, vs, i, w, rfl, rfl, .of h1, hw, q.now g rw'⟩)
      | _ => exact q.elim
    | tup xs =>
      cases e with
      | int i =>
        obtain ⟨p, vs, rfl, f1, h1, l1, z1⟩ := r1.tup g
        obtain rfl := r2.int g
        obtain ⟨u, hu, q⟩ := M.wp_opt q
        obtain ⟨w, hw, rw'⟩ := atI_rpl l1 hu
        exact .inr (.inr (.inl ⟨p, vs, i, w, rfl, rfl, .of h1, hw, q.now g rw'⟩))
      | _ => exact q.elim
    | str x =>
      cases e with
      | int i =>
        obtain ⟨rfl, ok, z⟩ := r1.str g
        obtain rfl := r2.int g
        simp only [dIx] at q
        split at q
        · rename_i c hc
          refine .inr (.inr (.inr ⟨x, i, c, rfl, rfl, z, hc, Post.now q g (.str _ ?_ ?_)⟩))
          · unfold PyData.strOk at ok ⊢
            rw [Array.all_eq_true_iff_forall_mem] at ok
            have hm : c ∈ x.cps := by have := atI_mem hc; simpa using this
            simpa using ok c hm
          · show 1 ≤ sizeLine; decide
        · exact q.elim
      | _ => exact q.elim
    | _ => exact q.elim
/-! ### slices -/
def PostO (S : SA) (G F : Hp) (σ : L2.St) (env : DEnv) (Q : Option Int → Hp → Prop) (o : Option Int) : Prop := ∀ G' F' H', Ext G F G' F' → Good S G' F' σ H' env → Q o H'
abbrev DO := DEnv → M (Option Int)
def TO_ (S : SA) (m : DO) : TO := fun σ H Q => ∃ G F env, Good S G F σ H env ∧ (m env).wp (PostO S G F σ env Q)
def QO (S : SA) (X : Cx) (o : Option Expr) (m : DO) : Prop := PO X o (TO_ S m)
theorem po_weak {X : Cx} {e : Option Expr} {t t' : TO} (h : PO X e t) (w : ∀ σ H Q, t' σ H Q → t σ H Q) : PO X e t' := ⟨fun pins s σ H Q I q => h.run pins s σ H Q I (w σ H Q q)⟩
def oNone : DO := fun _ => .ret none
def asI : D → M Int
  | .int i => .ret i
  | _ => .fail
theorem asI_wp {P : Int → Prop} {d : D} (h : (asI d).wp P) : ∃ b, d = .int b ∧ P b := by
  cases d with
  | int b => exact ⟨b, rfl, h⟩
  | _ => exact h.elim
def oSome (m : DE) : DO := fun env => m env >>= fun x => asI x >>= fun i => .ret (some i)
theorem qo_none : QO S X none oNone := po_weak po_none fun σ H Q ⟨G, F, env, g, q⟩ => q G F H (Ext.refl _ _) g
theorem qo_some (h : QB S X e m) : QO S X (some e) (oSome m) := po_weak (po_some h) fun σ H Q ⟨G, F, env, g, q⟩ => ⟨G, F, env, g, M.wp_mono (M.wpb q) fun d q v G1 F1 H1 e1 g1 r1 => by
  obtain ⟨i, rfl, q⟩ := asI_wp (M.wpb q)
  obtain rfl := r1.int g1
  exact ⟨i, rfl, q G1 F1 H1 e1 g1⟩⟩
def cutD {α : Type} (xs : List α) (lo hi : Option Int) : List α := (xs.drop (HT.sIx xs.length 0 lo)).take (HT.sIx xs.length xs.length hi - HT.sIx xs.length 0 lo)
theorem cut_rpl {ds : List D} {vs : List V} (r : RpL S F ds vs) (lo hi : Option Int) : RpL S F (cutD ds lo hi) (cutV vs lo hi) := by
  unfold cutD cutV
  rw [r.len]
  exact (r.drop _).take _
theorem cutV_le (vs : List V) (lo hi : Option Int) : (cutV vs lo hi).length ≤ vs.length := by
  unfold cutV
  rw [List.length_take, List.length_drop]
  omega
def dSl : D → Option Int → Option Int → M D
  | .lst xs, lo, hi => .ret (.lst (cutD xs lo hi))
  | .tup xs, lo, hi => .ret (.tup (cutD xs lo hi))
  | .str x, lo, hi => .ret (.str (cutS x lo hi))
  | _, _, _ => .fail
def dSlL : D → Option Int → Option Int → M D
  | .lst xs, lo, hi => .ret (.lst (cutD xs lo hi))
  | _, _, _ => .fail
def mSl (f : D → Option Int → Option Int → M D) (m : DE) (lo hi : DO) : DE := fun env => m env >>= fun x => lo env >>= fun l => hi env >>= fun h => f x l h
theorem sl_parts {PP : Hp → Hp → D → Prop} {f : D → Option Int → Option Int → M D} {lo hi : DO} {R : V → Option Int → Option Int → Hp → Prop}
    (g : Good S G F σ H env) (q : (mSl f m lo hi env).wp (PP G F)) (sh : ∀ G F G1 F1 d, Ext G F G1 F1 → PP G F d → PP G1 F1 d)
    (k : ∀ G F H x d l h, Good S G F σ H env → RdB S F σ env d x → (f d l h).wp (PP G F) → R x l h H) :
    TB_ S m σ H fun x H1 => TO_ S lo σ H1 fun l H2 => TO_ S hi σ H2 fun h H3 => R x l h H3 :=
  ⟨G, F, env, g, M.wp_mono (M.wpb q) fun d q v G1 F1 H1 e1 g1 r1 => ⟨G1, F1, env, g1, M.wp_mono (M.wpb q) fun l q G2 F2 H2 e2 g2 => ⟨G2, F2, env, g2, M.wp_mono (M.wpb q) fun h q G3 F3 H3 e3 g3 =>
    k G3 F3 H3 v d l h g3 (r1.mono (e2.f.trans e3.f)) (M.wp_mono q fun d3 => sh _ _ _ _ d3 (e1.trans (e2.trans e3)))⟩⟩⟩
theorem cutS_ok {x : Str} {lo hi : Option Int} (h : PyData.strOk x = true) : PyData.strOk (cutS x lo hi) = true := by
  unfold PyData.strOk cutS at *
  rw [Array.all_eq_true_iff_forall_mem] at h ⊢
  intro c hc
  refine h c ?_
  have hc' := List.mem_of_mem_take (List.mem_toArray.mp hc)
  have := List.mem_of_mem_drop hc'
  simpa using this
theorem qsl {lo hi : Option Expr} {p2 : Pos} {ml mh : DO} (ha : QB S X a ma) (hl : QO S X lo ml) (hh : QO S X hi mh) : QE S X (.Subscript a (.Slice lo hi none p2) pos) (mSl dSl ma ml mh) :=
  pe_weak (pe_slice (sl_list.or (sl_tupA.or sl_str)) ha hl hh) fun σ H Q ⟨G, F, env, g, q⟩ => sl_parts (PP := fun G F => Post S G F σ env Q) g q (fun _ _ _ _ _ => post_shift) fun G F H x d l h g r1 q => by
    cases d with
    | lst xs =>
      obtain ⟨p, vs, rfl, h1, l1, z1⟩ := r1.lst g
      exact .inl ⟨p, vs, rfl, .of h1, fun t ht => Post.lst q g ht (cut_rpl l1 l h) (Nat.le_trans (cutV_le _ _ _) z1)⟩
    | tup xs =>
      have w := r1.rpl g
      obtain ⟨p, vs, rfl, f1, h1, l1, z1⟩ := r1.tup g
      refine .inr (.inl ⟨p, vs, rfl, .of h1, fun e => ?_, fun e t ht => Post.tup q g ht (cut_rpl l1 l h) (Nat.le_trans (cutV_le _ _ _) z1)⟩)
      have ec : cutD xs l h = xs := by
        unfold cutD
        rw [l1.len, e.1, e.2, List.drop_zero, Nat.sub_zero, ← l1.len, List.take_length]
      rw [dSl, ec] at q
      exact Post.now q g w
    | str x =>
      obtain ⟨rfl, ok, z⟩ := r1.str g
      exact .inr (.inr ⟨x, rfl, z, Post.now q g (.str _ (cutS_ok ok) (Nat.le_trans (cutS_length _ _ _) z))⟩)
    | _ => exact q.elim
theorem qslF {lo hi : Option Expr} {p2 : Pos} {ml mh : DO} (ha : QB S X a ma) (hl : QO S X lo ml) (hh : QO S X hi mh) : QF S X (.Subscript a (.Slice lo hi none p2) pos) (mSl dSlL ma ml mh) :=
  pe_weak (pe_slice sl_list ha hl hh) fun σ H Q ⟨G, F, env, g, q⟩ => sl_parts (PP := fun G F => PostF S G F σ env Q) g q (fun _ _ _ _ _ => postF_shift) fun G F H x d l h g r1 q => by
    cases d with
    | lst xs =>
      obtain ⟨p, vs, rfl, h1, l1, z1⟩ := r1.lst g
      exact ⟨p, vs, rfl, .of h1, fun t ht => PostF.lst q g ht (cut_rpl l1 l h) (Nat.le_trans (cutV_le _ _ _) z1)⟩
    | _ => exact q.elim
def mRev (m : DE) : DE := fun env => m env >>= fun x => match x with
  | .lst xs => .ret (.lst xs.reverse)
  | _ => .fail
theorem qrev {k : Nat} {p1 p2 p3 : Pos} (ha : QB S X a ma) : QF S X (.Subscript a (.Slice none none (some (.UnaryOp .USub (.Constant (.int 1) k p1) p2)) p3) pos) (mRev ma) :=
  pe_weak (pe_revL ha) fun σ H Q ⟨G, F, env, g, q⟩ => ⟨G, F, env, g, M.wp_mono (M.wpb q) fun d q v G1 F1 H1 e1 g1 r1 => by
    cases d with
    | lst xs =>
      obtain ⟨p, vs, rfl, h1, l1, z1⟩ := r1.lst g1
      exact ⟨p, vs, rfl, .of h1, fun t ht => (postF_shift e1 q).lst g1 ht l1.reverse (by rw [List.length_reverse]; exact z1)⟩
    | _ => exact q.elim⟩
end
end DL

set_option Elab.async false
set_option linter.all false
set_option maxRecDepth 100000
/-! DL5: what is built in, called. -/
namespace DL
open PySem PySem.Spec L2
open PyProof.Rows hiding St

def CallD (S : SA) (X : Cx) (f : Value) (op : List D → M D) : Prop := ∃ r : List V → Hp → VK → Prop, CallR X f r ∧ ∀ (G F : Hp) (σ : L2.St) (H : Hp) (env : DEnv) (vs : List V) (ds : List D) (Q : VK),
  Good S G F σ H env → RdBL S F σ env ds vs → (op ds).wp (Post S G F σ env Q) → r vs H Q
def CallF (S : SA) (X : Cx) (f : Value) (op : List D → M D) : Prop := ∃ r : List V → Hp → VK → Prop, CallR X f r ∧ ∀ (G F : Hp) (σ : L2.St) (H : Hp) (env : DEnv) (vs : List V) (ds : List D) (Q : VK),
  Good S G F σ H env → RdBL S F σ env ds vs → (op ds).wp (PostF S G F σ env Q) → r vs H Q
def mCall (op : List D → M D) (ms : DA) : DE := fun env => ms env >>= op
section
variable {S : SA} {X : Cx} {G F G' F' H H' : Hp} {σ : L2.St} {env : DEnv} {d : D} {v : V} {p : Addr} {Q : VK} {m ma mb mc : DE} {t ta tb : DT} {ms : DA} {a b c e : Expr} {es rest : List Expr} {pos pp : Pos} {x : Str} {op : List D → M D}
theorem callR_or {f : Value} {r r' : List V → Hp → VK → Prop} (h : CallR X f r) (h' : CallR X f r') : CallR X f (fun xs H Q => r xs H Q ∨ r' xs H Q) := by
  intro pins s σ H xs us Q I rv q
  rcases q with q | q
  · exact h pins s σ H xs us Q I rv q
  · exact h' pins s σ H xs us Q I rv q
theorem qcallB {id : String} (hc : CallD S X (.builtin id) op) (hg : Gl X x) (hm : X.mg x = none) (hv : bootBuiltins x = some (.builtin id)) (ha : QAB S X (e :: es) ms) (hn : x ≠ "__name__" := by decide) (hdb : (x == ("__debug__" : Str)) = false := by decide)
    (he : starEach (e :: es) X.env = (false, eval e X.env) :: starEach es X.env := by rfl) (hpl : (backTo pos (starEach es X.env)).any (·.1) = false := by rfl) : QE S X (.Call (.Name x pp) (e :: es) [] pos) (mCall op ms) := by
  obtain ⟨r, hr, k⟩ := hc
  exact pe_weak (pe_callB hr hg hm hv ha hn hdb he hpl) fun σ H Q ⟨G, F, env, g, q⟩ => ⟨G, F, env, g, M.wp_mono (M.wpb q) fun ds q vs G1 F1 H1 e1 g1 r1 => k G1 F1 σ H1 env vs ds Q g1 r1 (M.wp_mono q fun _ => post_shift e1)⟩
theorem qcallBF {id : String} (hc : CallF S X (.builtin id) op) (hg : Gl X x) (hm : X.mg x = none) (hv : bootBuiltins x = some (.builtin id)) (ha : QAB S X (e :: es) ms) (hn : x ≠ "__name__" := by decide) (hdb : (x == ("__debug__" : Str)) = false := by decide)
    (he : starEach (e :: es) X.env = (false, eval e X.env) :: starEach es X.env := by rfl) (hpl : (backTo pos (starEach es X.env)).any (·.1) = false := by rfl) : QF S X (.Call (.Name x pp) (e :: es) [] pos) (mCall op ms) := by
  obtain ⟨r, hr, k⟩ := hc
  exact pe_weak (pe_callB hr hg hm hv ha hn hdb he hpl) fun σ H Q ⟨G, F, env, g, q⟩ => ⟨G, F, env, g, M.wp_mono (M.wpb q) fun ds q vs G1 F1 H1 e1 g1 r1 => k G1 F1 σ H1 env vs ds Q g1 r1 (M.wp_mono q fun _ => postF_shift e1)⟩
theorem qcallT {T : String} (hc : CallD S X (.type T) op) (hg : Gl X x) (hm : X.mg x = none) (hv : bootBuiltins x = some (.type T)) (ha : QAB S X (e :: es) ms) (hn : x ≠ "__name__" := by decide) (hdb : (x == ("__debug__" : Str)) = false := by decide)
    (he : starEach (e :: es) X.env = (false, eval e X.env) :: starEach es X.env := by rfl) (hpl : (backTo pos (starEach es X.env)).any (·.1) = false := by rfl) : QE S X (.Call (.Name x pp) (e :: es) [] pos) (mCall op ms) := by
  obtain ⟨r, hr, k⟩ := hc
  exact pe_weak (pe_callTy hr hg hm hv ha hn hdb he hpl) fun σ H Q ⟨G, F, env, g, q⟩ => ⟨G, F, env, g, M.wp_mono (M.wpb q) fun ds q vs G1 F1 H1 e1 g1 r1 => k G1 F1 σ H1 env vs ds Q g1 r1 (M.wp_mono q fun _ => post_shift e1)⟩
theorem qcallTF {T : String} (hc : CallF S X (.type T) op) (hg : Gl X x) (hm : X.mg x = none) (hv : bootBuiltins x = some (.type T)) (ha : QAB S X (e :: es) ms) (hn : x ≠ "__name__" := by decide) (hdb : (x == ("__debug__" : Str)) = false := by decide)
    (he : starEach (e :: es) X.env = (false, eval e X.env) :: starEach es X.env := by rfl) (hpl : (backTo pos (starEach es X.env)).any (·.1) = false := by rfl) : QF S X (.Call (.Name x pp) (e :: es) [] pos) (mCall op ms) := by
  obtain ⟨r, hr, k⟩ := hc
  exact pe_weak (pe_callTy hr hg hm hv ha hn hdb he hpl) fun σ H Q ⟨G, F, env, g, q⟩ => ⟨G, F, env, g, M.wp_mono (M.wpb q) fun ds q vs G1 F1 H1 e1 g1 r1 => k G1 F1 σ H1 env vs ds Q g1 r1 (M.wp_mono q fun _ => postF_shift e1)⟩
theorem rdb1 {vs : List V} (h : RdBL S F σ env [d] vs) : ∃ v, vs = [v] ∧ RdB S F σ env d v := by
  cases h with
  | cons r t => cases t; exact ⟨_, rfl, r⟩
theorem rdb2 {vs : List V} {d' : D} (h : RdBL S F σ env [d, d'] vs) : ∃ v u, vs = [v, u] ∧ RdB S F σ env d v ∧ RdB S F σ env d' u := by
  cases h with
  | cons r t =>
    cases t with
    | cons r' t => cases t; exact ⟨_, _, rfl, r, r'⟩
/-! ### len -/
def dLen : List D → M D
  | [.lst xs] => .ret (.int xs.length)
  | [.tup xs] => .ret (.int xs.length)
  | [.str x] => .ret (.int x.length)
  | _ => .fail
theorem c_len : CallD S X (.builtin "len") dLen := ⟨_, call_len, fun G F σ H env vs ds Q g r q => by
  unfold dLen at q
  split at q
  · obtain ⟨v, rfl, r1⟩ := rdb1 r
    obtain ⟨p, vs, rfl, h1, l1, z1⟩ := r1.lst g
    exact ⟨_, vs.length, rfl, .inl ⟨vs, .of h1, rfl⟩, by rw [← l1.len]; exact Post.now q g (.int _)⟩
  · obtain ⟨v, rfl, r1⟩ := rdb1 r
    obtain ⟨p, vs, rfl, f1, h1, l1, z1⟩ := r1.tup g
    exact ⟨_, vs.length, rfl, .inr ⟨vs, .of h1, rfl⟩, by rw [← l1.len]; exact Post.now q g (.int _)⟩
  · obtain ⟨v, rfl, r1⟩ := rdb1 r
    obtain ⟨rfl, ok, z⟩ := r1.str g
    exact ⟨_, _, rfl, ⟨z, rfl⟩, Post.now q g (.int _)⟩
  · exact q.elim⟩
/-! ### list(..), tuple(..) -/
def dList : List D → M D
  | [.lst xs] => .ret (.lst xs)
  | [.tup xs] => .ret (.lst xs)
  | _ => .fail
def dTuple : List D → M D
  | [.lst xs] => .ret (.tup xs)
  | [.tup xs] => .ret (.tup xs)
  | _ => .fail
theorem c_list : CallF S X (.type "list") dList := ⟨_, call_list_of, fun G F σ H env vs ds Q g r q => by
  unfold dList at q
  split at q
  · obtain ⟨v, rfl, r1⟩ := rdb1 r
    obtain ⟨p, vs, rfl, h1, l1, z1⟩ := r1.lst g
    exact ⟨p, vs, rfl, .inl (.of h1), fun t ht => PostF.lst q g ht l1 z1⟩
  · obtain ⟨v, rfl, r1⟩ := rdb1 r
    obtain ⟨p, vs, rfl, f1, h1, l1, z1⟩ := r1.tup g
    exact ⟨p, vs, rfl, .inr (.of h1), fun t ht => PostF.lst q g ht l1 z1⟩
  · exact q.elim⟩
theorem c_tuple : CallD S X (.type "tuple") dTuple := ⟨_, call_tuple_of, fun G F σ H env vs ds Q g r q => by
  unfold dTuple at q
  split at q
  · obtain ⟨v, rfl, r1⟩ := rdb1 r
    obtain ⟨p, vs, rfl, h1, l1, z1⟩ := r1.lst g
    exact ⟨p, vs, rfl, .inl ⟨.of h1, fun t ht => Post.tup q g ht l1 z1⟩⟩
  · obtain ⟨v, rfl, r1⟩ := rdb1 r
    have w := r1.rpl g
    obtain ⟨p, vs, rfl, f1, h1, l1, z1⟩ := r1.tup g
    exact ⟨p, vs, rfl, .inr ⟨.of h1, Post.now q g w⟩⟩
  · exact q.elim⟩
/-! ### int, abs -/
def dInt : List D → M D
  | [.int i] => .ret (.int i)
  | [.bl k] => .ret (.int (if k then 1 else 0))
  | _ => .fail
theorem c_int : CallD S X (.type "int") dInt := ⟨_, call_int1, fun G F σ H env vs ds Q g r q => by
  unfold dInt at q
  split at q
  · obtain ⟨v, rfl, r1⟩ := rdb1 r
    obtain rfl := r1.int g
    exact .inl ⟨_, rfl, Post.now q g (.int _)⟩
  · obtain ⟨v, rfl, r1⟩ := rdb1 r
    obtain rfl := r1.bl g
    exact .inr ⟨_, rfl, Post.now q g (.int _)⟩
  · exact q.elim⟩
def dAbs : List D → M D
  | [.int i] => .ret (.int (if i < 0 then -i else i))
  | _ => .fail
theorem c_abs : CallD S X (.builtin "abs") dAbs := ⟨_, call_abs, fun G F σ H env vs ds Q g r q => by
  unfold dAbs at q
  split at q
  · obtain ⟨v, rfl, r1⟩ := rdb1 r
    obtain rfl := r1.int g
    exact ⟨_, rfl, Post.now q g (.int _)⟩
  · exact q.elim⟩
/-! ### all, any, sum, max, min of a list -/
def blsOf : List D → Option (List Bool)
  | [] => some []
  | .bl b :: r => (blsOf r).map (b :: ·)
  | _ => none
def intsOf : List D → Option (List Int)
  | [] => some []
  | .int b :: r => (intsOf r).map (b :: ·)
  | _ => none
theorem bls_rpl : ∀ {ds : List D} {bs : List Bool} {vs : List V}, blsOf ds = some bs → RpL S F ds vs → vs = bs.map V.bl
  | [], bs, vs, h, r => by cases h; cases r; rfl
  | d :: ds, bs, vs, h, r => by
    cases r with
    | cons r t =>
      cases d with
      | bl b =>
        cases r
        simp only [blsOf, Option.map_eq_some_iff] at h
        obtain ⟨bs', h1, rfl⟩ := h
        rw [bls_rpl h1 t]; rfl
      | _ => simp [blsOf] at h
theorem ints_rpl : ∀ {ds : List D} {bs : List Int} {vs : List V}, intsOf ds = some bs → RpL S F ds vs → vs = bs.map V.int
  | [], bs, vs, h, r => by cases h; cases r; rfl
  | d :: ds, bs, vs, h, r => by
    cases r with
    | cons r t =>
      cases d with
      | int b =>
        cases r
        simp only [intsOf, Option.map_eq_some_iff] at h
        obtain ⟨bs', h1, rfl⟩ := h
        rw [ints_rpl h1 t]; rfl
      | _ => simp [intsOf] at h
def dOnL (f : List D → M D) : List D → M D
  | [.lst xs] => f xs
  | _ => .fail
theorem onL {P : D → Prop} {f : List D → M D} {ds : List D} {vs : List V} (g : Good S G F σ H env) (r : RdBL S F σ env ds vs) (q : (dOnL f ds).wp P) :
    ∃ p us xs, vs = [.ref p] ∧ H p = some (.lst us) ∧ RpL S F xs us ∧ us.length ≤ sizeLine ∧ (f xs).wp P := by
  unfold dOnL at q
  split at q
  · obtain ⟨v, rfl, r1⟩ := rdb1 r
    obtain ⟨p, us, rfl, h1, l1, z1⟩ := r1.lst g
    exact ⟨p, us, _, rfl, h1, l1, z1, q⟩
  · exact q.elim
def dAll : List D → M D := dOnL fun xs => M.opt (blsOf xs) >>= fun bs => .ret (.bl (bs.all id))
def dAny : List D → M D := dOnL fun xs => M.opt (blsOf xs) >>= fun bs => .ret (.bl (bs.any id))
def dSum : List D → M D := dOnL fun xs => M.opt (intsOf xs) >>= fun bs => .ret (.int bs.sum)
theorem c_all (hc : X.calm = true) : CallD S X (.builtin "all") dAll := ⟨_, cr_all hc, fun G F σ H env vs ds Q g r q => by
  obtain ⟨p, us, xs, rfl, h1, l1, _, q⟩ := onL g r q
  obtain ⟨bs, hb, q⟩ := M.wp_opt (M.wpb q)
  exact ⟨p, bs, rfl, bls_rpl hb l1 ▸ .of h1, Post.now q g (.bl _)⟩⟩
theorem c_any (hc : X.calm = true) : CallD S X (.builtin "any") dAny := ⟨_, cr_any hc, fun G F σ H env vs ds Q g r q => by
  obtain ⟨p, us, xs, rfl, h1, l1, _, q⟩ := onL g r q
  obtain ⟨bs, hb, q⟩ := M.wp_opt (M.wpb q)
  exact ⟨p, bs, rfl, bls_rpl hb l1 ▸ .of h1, Post.now q g (.bl _)⟩⟩
theorem c_sum (hc : X.calm = true) : CallD S X (.builtin "sum") dSum := ⟨_, cr_sum hc, fun G F σ H env vs ds Q g r q => by
  obtain ⟨p, us, xs, rfl, h1, l1, _, q⟩ := onL g r q
  obtain ⟨bs, hb, q⟩ := M.wp_opt (M.wpb q)
  exact ⟨p, bs, rfl, ints_rpl hb l1 ▸ .of h1, Post.now q g (.int _)⟩⟩
def maxI : List Int → Int
  | [] => 0
  | x :: r => r.foldl (fun m y => if m < y then y else m) x
def minI : List Int → Int
  | [] => 0
  | x :: r => r.foldl (fun m y => if y < m then y else m) x
theorem fold_max : ∀ (r : List Int) (x : Int), (r.foldl (fun m y => if m < y then y else m) x = x ∨ r.foldl (fun m y => if m < y then y else m) x ∈ r) ∧ x ≤ r.foldl (fun m y => if m < y then y else m) x ∧ ∀ y ∈ r, y ≤ r.foldl (fun m y => if m < y then y else m) x
  | [], x => ⟨.inl rfl, Int.le_refl _, fun _ h => nomatch h⟩
  | z :: r, x => by
    rw [List.foldl_cons]
    obtain ⟨h1, h2, h3⟩ := fold_max r (if x < z then z else x)
    have hz : z ≤ (if x < z then z else x) ∧ x ≤ (if x < z then z else x) := by split <;> omega
    refine ⟨?_, by omega, fun y hy => ?_⟩
    · rcases h1 with h1 | h1
      · rw [h1]; split
        · exact .inr (List.mem_cons_self ..)
        · exact .inl rfl
      · exact .inr (List.mem_cons_of_mem _ h1)
    · rcases List.mem_cons.mp hy with rfl | hy
      · omega
      · exact h3 y hy
theorem fold_min : ∀ (r : List Int) (x : Int), (r.foldl (fun m y => if y < m then y else m) x = x ∨ r.foldl (fun m y => if y < m then y else m) x ∈ r) ∧ r.foldl (fun m y => if y < m then y else m) x ≤ x ∧ ∀ y ∈ r, r.foldl (fun m y => if y < m then y else m) x ≤ y
  | [], x => ⟨.inl rfl, Int.le_refl _, fun _ h => nomatch h⟩
  | z :: r, x => by
    rw [List.foldl_cons]
    obtain ⟨h1, h2, h3⟩ := fold_min r (if z < x then z else x)
    have hz : (if z < x then z else x) ≤ z ∧ (if z < x then z else x) ≤ x := by split <;> omega
    refine ⟨?_, by omega, fun y hy => ?_⟩
    · rcases h1 with h1 | h1
      · rw [h1]; split
        · exact .inr (List.mem_cons_self ..)
        · exact .inl rfl
      · exact .inr (List.mem_cons_of_mem _ h1)
    · rcases List.mem_cons.mp hy with rfl | hy
      · omega
      · exact h3 y hy
theorem maxI_spec {l : List Int} (h : 0 < l.length) : maxI l ∈ l ∧ ∀ y ∈ l, y ≤ maxI l := by
  cases l with
  | nil => cases h
  | cons x r =>
    obtain ⟨h1, h2, h3⟩ := fold_max r x
    refine ⟨?_, fun y hy => ?_⟩
    · rcases h1 with h1 | h1
      · show r.foldl _ x ∈ _
        rw [h1]; exact List.mem_cons_self ..
      · exact List.mem_cons_of_mem _ h1
    · rcases List.mem_cons.mp hy with rfl | hy
      · exact h2
      · exact h3 y hy
theorem minI_spec {l : List Int} (h : 0 < l.length) : minI l ∈ l ∧ ∀ y ∈ l, minI l ≤ y := by
  cases l with
  | nil => cases h
  | cons x r =>
    obtain ⟨h1, h2, h3⟩ := fold_min r x
    refine ⟨?_, fun y hy => ?_⟩
    · rcases h1 with h1 | h1
      · show r.foldl _ x ∈ _
        rw [h1]; exact List.mem_cons_self ..
      · exact List.mem_cons_of_mem _ h1
    · rcases List.mem_cons.mp hy with rfl | hy
      · exact h2
      · exact h3 y hy
def dMax : List D → M D
  | [.int i, .int j] => .ret (.int (if j > i then j else i))
  | [.lst xs] => M.opt (intsOf xs) >>= fun bs => if 0 < bs.length then .ret (.int (maxI bs)) else .fail
  | _ => .fail
def dMin : List D → M D
  | [.int i, .int j] => .ret (.int (if j < i then j else i))
  | [.lst xs] => M.opt (intsOf xs) >>= fun bs => if 0 < bs.length then .ret (.int (minI bs)) else .fail
  | _ => .fail
theorem c_max (hc : X.calm = true) : CallD S X (.builtin "max") dMax := ⟨_, callR_or (call_max2 hc) (cr_max hc), fun G F σ H env vs ds Q g r q => by
  unfold dMax at q
  split at q
  · obtain ⟨v, u, rfl, r1, r2⟩ := rdb2 r
    obtain rfl := r1.int g
    obtain rfl := r2.int g
    exact .inl ⟨_, _, rfl, Post.now q g (.int _)⟩
  · obtain ⟨v, rfl, r1⟩ := rdb1 r
    obtain ⟨p, us, rfl, h1, l1, _⟩ := r1.lst g
    obtain ⟨bs, hb, q⟩ := M.wp_opt (M.wpb q)
    split at q
    · rename_i h0
      refine .inr ⟨p, bs, rfl, ints_rpl hb l1 ▸ .of h1, h0, fun m hm hle => ?_⟩
      obtain ⟨s1, s2⟩ := maxI_spec h0
      have e : m = maxI bs := Int.le_antisymm (s2 m hm) (hle _ s1)
      rw [e]
      exact Post.now q g (.int _)
    · exact q.elim
  · exact q.elim⟩
theorem c_min (hc : X.calm = true) : CallD S X (.builtin "min") dMin := ⟨_, callR_or (call_min2 hc) (cr_min hc), fun G F σ H env vs ds Q g r q => by
  unfold dMin at q
  split at q
  · obtain ⟨v, u, rfl, r1, r2⟩ := rdb2 r
    obtain rfl := r1.int g
    obtain rfl := r2.int g
    exact .inl ⟨_, _, rfl, Post.now q g (.int _)⟩
  · obtain ⟨v, rfl, r1⟩ := rdb1 r
    obtain ⟨p, us, rfl, h1, l1, _⟩ := r1.lst g
    obtain ⟨bs, hb, q⟩ := M.wp_opt (M.wpb q)
    split at q
    · rename_i h0
      refine .inr ⟨p, bs, rfl, ints_rpl hb l1 ▸ .of h1, h0, fun m hm hle => ?_⟩
      obtain ⟨s1, s2⟩ := minI_spec h0
      have e : m = minI bs := Int.le_antisymm (hle _ s1) (s2 m hm)
      rw [e]
      exact Post.now q g (.int _)
    · exact q.elim
  · exact q.elim⟩
/-! ### range(..) -/
def rgD (a b : Int) : List D := (List.range (b - a).toNat).map fun i => D.int (a + (i : Nat))
theorem rg_rpl_map : ∀ (l : List Nat) (a : Int), RpL S F (l.map fun i => D.int (a + (i : Nat))) (l.map fun i => V.int (a + (i : Nat)))
  | [], _ => .nil
  | i :: l, a => .cons (.int _) (rg_rpl_map l a)
theorem rg_rpl (a b : Int) : RpL S F (rgD a b) (rgV a b) := rg_rpl_map _ a
def rgOk (a b : Int) : Bool := decide (-(2 ^ 62) ≤ a) && (decide (a < 2 ^ 62) && (decide (-(2 ^ 62) ≤ b) && (decide (b < 2 ^ 62) && decide ((b - a).toNat ≤ 2 ^ 24))))
theorem rgOk_iff {a b : Int} : rgOk a b = true → RgOk a b := fun h => by
  simp only [rgOk, Bool.and_eq_true, decide_eq_true_eq] at h
  exact ⟨h.1, h.2.1, h.2.2.1, h.2.2.2.1, h.2.2.2.2⟩
theorem rgV_le {a b : Int} (h : RgOk a b) : (rgV a b).length ≤ sizeLine := by
  rw [rgV_length, sizeLine_eq]
  exact h.2.2.2.2
def mRgL (f : List D → D) (ma mb : DE) : DE := fun env => ma env >>= fun x => mb env >>= fun y => asI x >>= fun i => asI y >>= fun j => if rgOk i j then .ret (f (rgD i j)) else .fail
def mRgL1 (f : List D → D) (ma : DE) : DE := fun env => ma env >>= fun x => asI x >>= fun j => if rgOk 0 j then .ret (f (rgD 0 j)) else .fail
theorem qlistRg1 {p1 p2 pos2 : Pos} (hc : X.calm = true) (hg : Gl X "list") (hm : X.mg "list" = none) (hg2 : Gl X "range") (hm2 : X.mg "range" = none) (ha : QB S X a ma)
    (n1 : starEach [.Call (.Name "range" p2) [a] [] pos2] X.env = (false, eval (.Call (.Name "range" p2) [a] [] pos2) X.env) :: starEach [] X.env := by rfl) (n2 : starEach [a] X.env = (false, eval a X.env) :: starEach [] X.env := by rfl) :
    QF S X (.Call (.Name "list" p1) [.Call (.Name "range" p2) [a] [] pos2] [] pos) (mRgL1 .lst ma) :=
  pe_weak (pe_listRg hc hg hm (prg_1 hg2 hm2 ha n2) n1) fun σ H Q ⟨G, F, env, g, q⟩ => ⟨G, F, env, g, M.wp_mono (M.wpb q) fun d q v G1 F1 H1 e1 g1 r1 => by
    obtain ⟨i, ei, q1⟩ := asI_wp (M.wpb q)
    subst ei
    obtain rfl := r1.int g1
    split at q1
    · have ok := rgOk_iff (by assumption)
      exact ⟨i, rfl, ok, fun t ht => (postF_shift e1 q1).lst g1 ht (rg_rpl _ _) (rgV_le ok)⟩
    · exact q1.elim⟩
theorem qlistRg2 {p1 p2 pos2 : Pos} (hc : X.calm = true) (hg : Gl X "list") (hm : X.mg "list" = none) (hg2 : Gl X "range") (hm2 : X.mg "range" = none) (ha : QB S X a ma) (hb : QB S X b mb)
    (n1 : starEach [.Call (.Name "range" p2) [a, b] [] pos2] X.env = (false, eval (.Call (.Name "range" p2) [a, b] [] pos2) X.env) :: starEach [] X.env := by rfl) (n2 : starEach [a, b] X.env = (false, eval a X.env) :: starEach [b] X.env := by rfl)
    (n3 : starEach [b] X.env = (false, eval b X.env) :: starEach [] X.env := by rfl) (n4 : (backTo pos2 (starEach [b] X.env)).any (·.1) = false := by rfl) :
    QF S X (.Call (.Name "list" p1) [.Call (.Name "range" p2) [a, b] [] pos2] [] pos) (mRgL .lst ma mb) :=
  pe_weak (pe_listRg hc hg hm (prg_2 hg2 hm2 ha hb n2 n3 n4) n1) fun σ H Q ⟨G, F, env, g, q⟩ => ⟨G, F, env, g, M.wp_mono (M.wpb q) fun d q v G1 F1 H1 e1 g1 r1 => ⟨G1, F1, env, g1, M.wp_mono (M.wpb q) fun d2 q v2 G2 F2 H2 e2 g2 r2 => by
    obtain ⟨i, ei, q1⟩ := asI_wp (M.wpb q)
    obtain ⟨j, ej, q2⟩ := asI_wp (M.wpb q1)
    subst ei ej
    obtain rfl := r1.int g1
    obtain rfl := r2.int g2
    split at q2
    · have ok := rgOk_iff (by assumption)
      exact ⟨i, j, rfl, rfl, ok, fun t ht => (postF_shift (e1.trans e2) q2).lst g2 ht (rg_rpl _ _) (rgV_le ok)⟩
    · exact q2.elim⟩⟩
theorem qtupRg1 {p1 p2 pos2 : Pos} (hc : X.calm = true) (hg : Gl X "tuple") (hm : X.mg "tuple" = none) (hg2 : Gl X "range") (hm2 : X.mg "range" = none) (ha : QB S X a ma)
    (n1 : starEach [.Call (.Name "range" p2) [a] [] pos2] X.env = (false, eval (.Call (.Name "range" p2) [a] [] pos2) X.env) :: starEach [] X.env := by rfl) (n2 : starEach [a] X.env = (false, eval a X.env) :: starEach [] X.env := by rfl) :
    QE S X (.Call (.Name "tuple" p1) [.Call (.Name "range" p2) [a] [] pos2] [] pos) (mRgL1 .tup ma) :=
  pe_weak (pe_tupRg hc hg hm (prg_1 hg2 hm2 ha n2) n1) fun σ H Q ⟨G, F, env, g, q⟩ => ⟨G, F, env, g, M.wp_mono (M.wpb q) fun d q v G1 F1 H1 e1 g1 r1 => by
    obtain ⟨i, ei, q1⟩ := asI_wp (M.wpb q)
    subst ei
    obtain rfl := r1.int g1
    split at q1
    · have ok := rgOk_iff (by assumption)
      exact ⟨i, rfl, ok, fun t ht => (post_shift e1 q1).tup g1 ht (rg_rpl _ _) (rgV_le ok)⟩
    · exact q1.elim⟩
end
end DL

set_option Elab.async false
set_option linter.all false
set_option maxRecDepth 100000
/-! DL6: targets, what is walked, statements, loops. -/
namespace DL
open PySem PySem.Spec L2
open PyProof.Rows hiding St

/-- how a block ends -/
inductive Fl where
  | nx | bk | ct | rt (d : D)
abbrev DS := DEnv → M (Fl × DEnv)
abbrev DG := D → DEnv → M DEnv
abbrev DI := DEnv → M (List D)
def EndD (S : SA) (D' : Ends) (F : Hp) (σ : L2.St) (H : Hp) : Fl → Prop
  | .nx => D'.nx σ H
  | .bk => D'.bk σ H
  | .ct => D'.ct σ H
  | .rt d => ∀ v, Rp S F d v → D'.rt v H
def PostS (S : SA) (G F : Hp) (D' : Ends) (r : Fl × DEnv) : Prop := ∀ σ G' F' H', Ext G F G' F' → Good S G' F' σ H' r.2 → EndD S D' F' σ H' r.1
def TS_ (S : SA) (m : DS) : TS := fun D' σ H => ∃ G F env, Good S G F σ H env ∧ (m env).wp (PostS S G F D')
def QS (S : SA) (X : Cx) (st : Stmt) (m : DS) : Prop := PS X st (TS_ S m)
def QSs (S : SA) (X : Cx) (sts : List Stmt) (m : DS) : Prop := PSs X sts (TS_ S m)
def wipeE (env : DEnv) : List Nat → DEnv
  | [] => env
  | v :: vs => (wipeE env vs).set v none
/-- only the names at ws are stored -/
def Only (ws : List Nat) (σ : L2.St) (env : DEnv) (σ' : L2.St) (env' : DEnv) : Prop := wipe σ' ws = wipe σ ws ∧ wipeE env' ws = wipeE env ws
def TG_ (S : SA) (ws : List Nat) (m : DG) : TG := fun v σ H Q => ∃ G F env d, Good S G F σ H env ∧ Rp S F d v ∧ (m d env).wp fun env' => ∀ σ', Only ws σ env σ' env' → Good S G F σ' H env' → Q σ' H
def QG (S : SA) (ws : List Nat) (X : Cx) (tg : Expr) (m : DG) : Prop := PG X tg (TG_ S ws m)
abbrev DGs := List D → DEnv → M DEnv
def TGs_ (S : SA) (ws : List Nat) (m : DGs) : TGs := fun vs σ H Q => ∃ G F env ds, Good S G F σ H env ∧ RpL S F ds vs ∧ (m ds env).wp fun env' => ∀ σ', Only ws σ env σ' env' → Good S G F σ' H env' → Q σ' H
def QGs (S : SA) (ws : List Nat) (X : Cx) (ts : List Expr) (m : DGs) : Prop := PGs X ts (TGs_ S ws m)
theorem pgs_weak {X : Cx} {es : List Expr} {t t' : TGs} (h : PGs X es t) (w : ∀ v σ H Q, t' v σ H Q → t v σ H Q) : PGs X es t' := ⟨fun pins s σ H v u Q I r q => h.run pins s σ H v u Q I r (w v σ H Q q)⟩

section
variable {S : SA} {X : Cx} {G F G' F' H H' : Hp} {σ : L2.St} {env : DEnv} {d : D} {v : V} {p : Addr} {Q : VK} {m ma mb mc : DE} {t ta tb : DT} {ms : DA} {a b c e : Expr} {es rest : List Expr} {pos pp : Pos} {x : Str} {i : Nat}
/-! ### storing at a name -/
theorem Good.setVal (g : Good S G F σ H env) (r : Rp S F d v) : Good S G F (σ.set i (some v)) H (env.set i (some (.val d))) := by
  refine ⟨g.kp, g.fg, g.st, g.ns, g.nc, by rw [List.length_set, List.length_set]; exact g.len, fun j sl e => ?_, fun j k dj dk a e1 e2 e3 e4 => ?_⟩
  · by_cases hij : i = j
    · subst hij
      have hi : i < env.length := by
        rcases Nat.lt_or_ge i env.length with h | h
        · exact h
        · rw [List.getElem?_eq_none (by rw [List.length_set]; exact h)] at e; cases e
      rw [List.getElem?_set_self hi] at e
      cases e
      exact ⟨v, List.getElem?_set_self (by rw [g.len]; exact hi), r⟩
    · rw [List.getElem?_set_ne hij] at e
      have q := g.slot j sl e
      cases sl with
      | val d' =>
        obtain ⟨u, h1, h2⟩ := q
        exact ⟨u, by rw [List.getElem?_set_ne hij]; exact h1, h2⟩
      | bor d' =>
        obtain ⟨u, h1, h2⟩ := q
        exact ⟨u, by rw [List.getElem?_set_ne hij]; exact h1, h2⟩
      | own d' =>
        obtain ⟨a, h1, h2⟩ := q
        exact ⟨a, by rw [List.getElem?_set_ne hij]; exact h1, h2⟩
  · have nj : i ≠ j := by
      rintro rfl
      rcases Nat.lt_or_ge i env.length with h | h
      · rw [List.getElem?_set_self h] at e1; cases e1
      · rw [List.getElem?_eq_none (by rw [List.length_set]; exact h)] at e1; cases e1
    have nk : i ≠ k := by
      rintro rfl
      rcases Nat.lt_or_ge i env.length with h | h
      · rw [List.getElem?_set_self h] at e2; cases e2
      · rw [List.getElem?_eq_none (by rw [List.length_set]; exact h)] at e2; cases e2
    rw [List.getElem?_set_ne nj] at e1 e3
    rw [List.getElem?_set_ne nk] at e2 e4
    exact g.dist j k dj dk a e1 e2 e3 e4
theorem Good.setOwn (g : Good S G F σ H env) (f : FreshR S G F σ H env p d) : Good S G F (σ.set i (some (.ref p))) H (env.set i (some (.own d))) := by
  obtain ⟨n, n1, n2, hs, ow⟩ := f
  have hi : ∀ {j : Nat} {sl : Sl}, (env.set i (some sl))[i]? = some (some sl) → i < env.length := fun {j sl} e => by
    rcases Nat.lt_or_ge i env.length with h | h
    · exact h
    · rw [List.getElem?_eq_none (by rw [List.length_set]; exact h)] at e; cases e
  refine ⟨g.kp, g.fg, g.st, g.ns, g.nc, by rw [List.length_set, List.length_set]; exact g.len, fun j sl e => ?_, fun j k dj dk a e1 e2 e3 e4 => ?_⟩
  · by_cases hij : i = j
    · subst hij
      have hi : i < env.length := by
        rcases Nat.lt_or_ge i env.length with h | h
        · exact h
        · rw [List.getElem?_eq_none (by rw [List.length_set]; exact h)] at e; cases e
      rw [List.getElem?_set_self hi] at e
      cases e
      exact ⟨p, List.getElem?_set_self (by rw [g.len]; exact hi), n, n1, n2, ow⟩
    · rw [List.getElem?_set_ne hij] at e
      have q := g.slot j sl e
      cases sl with
      | val d' =>
        obtain ⟨u, h1, h2⟩ := q
        exact ⟨u, by rw [List.getElem?_set_ne hij]; exact h1, h2⟩
      | bor d' =>
        obtain ⟨u, h1, h2⟩ := q
        exact ⟨u, by rw [List.getElem?_set_ne hij]; exact h1, h2⟩
      | own d' =>
        obtain ⟨a, h1, h2⟩ := q
        exact ⟨a, by rw [List.getElem?_set_ne hij]; exact h1, h2⟩
  · by_cases nj : i = j
    · by_cases nk : i = k
      · rw [← nj, ← nk]
      · subst nj
        rw [List.getElem?_set_ne nk] at e2 e4
        have hi : i < env.length := by
          rcases Nat.lt_or_ge i env.length with h | h
          · exact h
          · rw [List.getElem?_eq_none (by rw [List.length_set]; exact h)] at e1; cases e1
        rw [List.getElem?_set_self (by rw [g.len]; exact hi)] at e3
        cases e3
        exact absurd e4 (hs k dk e2)
    · by_cases nk : i = k
      · subst nk
        rw [List.getElem?_set_ne nj] at e1 e3
        have hi : i < env.length := by
          rcases Nat.lt_or_ge i env.length with h | h
          · exact h
          · rw [List.getElem?_eq_none (by rw [List.length_set]; exact h)] at e2; cases e2
        rw [List.getElem?_set_self (by rw [g.len]; exact hi)] at e4
        cases e4
        exact absurd e3 (hs j dj e1)
      · rw [List.getElem?_set_ne nj] at e1 e3
        rw [List.getElem?_set_ne nk] at e2 e4
        exact g.dist j k dj dk a e1 e2 e3 e4
/-- an own list (or dict) from now on stands still -/
theorem Good.frzCore {a : Addr} {o : HO} (g : Good S G F σ H env) (e : env[i]? = some (some (.own d))) (h1 : σ[i]? = some (some (.ref a))) (h2 : G a = none) (h3 : a ≠ S.sa) (h4 : a ≠ S.ca) (hk : ∀ b, b ≠ a → H' b = H b) (ho : H' a = some o) (r : Rp S (upd F a o) d (.ref a)) :
    ∃ G' F', Ext G F G' F' ∧ Good S G' F' σ H' (env.set i (some (.val d))) := by
  have hi : i < env.length := (List.getElem?_eq_some_iff.mp e).1
  have nf : F a = none := g.fg.no h2
  refine ⟨upd G a o, upd F a o, ⟨sub_upd h2, sub_upd nf, fun b hb hb' => ?_⟩, ⟨fun b u q => ?_, fun b u q => ?_, ⟨g.st.1, ?_⟩, ?_, ?_, by rw [List.length_set]; exact g.len, fun j sl q => ?_, fun j k dj dk b e1 e2 e3 e4 => ?_⟩⟩
  · have na : b ≠ a := fun z => hb' (by rw [z]; exact h2)
    rw [upd_ne na]; exact hb
  · by_cases z : b = a
    · subst z; rw [upd_same] at q; cases q; exact ho
    · rw [upd_ne z] at q; rw [hk b z]; exact g.kp b u q
  · by_cases z : b = a
    · subst z; rw [upd_same] at q ⊢; exact q
    · rw [upd_ne z] at q ⊢; exact g.fg b u q
  · obtain ⟨_, n, cs, q1, q2, q3⟩ := g.st
    exact ⟨n, cs, by rw [hk _ h3.symm]; exact q1, by rw [hk _ h4.symm]; exact q2, q3⟩
  · rw [upd_ne h3.symm]; exact g.ns
  · rw [upd_ne h4.symm]; exact g.nc
  · by_cases hij : i = j
    · subst hij
      rw [List.getElem?_set_self hi] at q
      cases q
      exact ⟨_, h1, r⟩
    · rw [List.getElem?_set_ne hij] at q
      have w := g.slot j sl q
      cases sl with
      | val d' =>
        obtain ⟨u, w1, w2⟩ := w
        exact ⟨u, w1, w2.mono (sub_upd nf)⟩
      | bor d' =>
        obtain ⟨u, w1, w2⟩ := w
        exact ⟨u, w1, w2.mono (sub_upd h2) (sub_upd nf)⟩
      | own d' =>
        obtain ⟨b, w1, w2, w3, w4, w5⟩ := w
        have nb : b ≠ a := by
          rintro rfl
          exact hij (g.dist i j _ _ b e q h1 w1)
        exact ⟨b, w1, by rw [upd_ne nb]; exact w2, w3, w4, ownR_mono (sub_upd nf) (fun o z => by rw [hk b nb]; exact z) w5⟩
  · have nj : i ≠ j := by
      rintro rfl
      rw [List.getElem?_set_self hi] at e1; cases e1
    have nk : i ≠ k := by
      rintro rfl
      rw [List.getElem?_set_self hi] at e2; cases e2
    rw [List.getElem?_set_ne nj] at e1
    rw [List.getElem?_set_ne nk] at e2
    exact g.dist j k dj dk b e1 e2 e3 e4
theorem Good.frzAt (g : Good S G F σ H env) (e : env[i]? = some (some (.own d))) : ∃ p, Lk p H fun H' => ∃ G' F', Ext G F G' F' ∧ Good S G' F' σ H' (env.set i (some (.val d))) := by
  obtain ⟨a, h1, h2, h3, h4, h5⟩ := g.slot i _ e
  rcases ownR_frz (g.fg.no h2) h5 with ⟨o, ho, r⟩ | ⟨u, hu, mu, r⟩
  · exact ⟨a, .inl (g.frzCore e h1 h2 h3 h4 (fun _ _ => rfl) ho r)⟩
  · exact ⟨a, .inr ⟨u, hu, mu, fun od => g.frzCore e h1 h2 h3 h4 (fun b hb => upd_ne hb) upd_same (r od)⟩⟩
/-- a new object, kept and read from now on -/
theorem Good.newFrz (g : Good S G F σ H env) (hp : H p = none) (o : HO) : Ext G F (upd G p o) (upd F p o) ∧ Good S (upd G p o) (upd F p o) σ (upd H p o) env := by
  obtain ⟨g', x⟩ := (g.new hp o).frz upd_same (g.kp.no hp) (g.stNe hp).1 (g.stNe hp).2 (g.ownNe hp)
  exact ⟨x, g'⟩

/-! ### targets -/
theorem wipe_set {x : Option V} : ∀ {ws : List Nat} {i : Nat} {σ : L2.St}, i ∈ ws → wipe (σ.set i x) ws = wipe σ ws
  | w :: ws, i, σ, h => by
    show (wipe (σ.set i x) ws).set w none = (wipe σ ws).set w none
    by_cases hm : i ∈ ws
    · rw [wipe_set hm]
    · rcases List.mem_cons.mp h with e | e
      · subst e
        have out : ∀ (us : List Nat) (σ : L2.St), i ∉ us → wipe (σ.set i x) us = (wipe σ us).set i x := by
          intro us
          induction us with
          | nil => intro σ _; rfl
          | cons u us ih =>
            intro σ hu
            show (wipe (σ.set i x) us).set u none = ((wipe σ us).set u none).set i x
            rw [ih σ (fun z => hu (List.mem_cons_of_mem _ z)), List.set_comm _ _ (fun e => hu (by rw [e]; exact List.mem_cons_self ..))]
        rw [out ws σ hm, List.set_set]
      · exact absurd e hm
theorem wipeE_set {x : Option Sl} : ∀ {ws : List Nat} {i : Nat} {env : DEnv}, i ∈ ws → wipeE (env.set i x) ws = wipeE env ws
  | w :: ws, i, σ, h => by
    show (wipeE (σ.set i x) ws).set w none = (wipeE σ ws).set w none
    by_cases hm : i ∈ ws
    · rw [wipeE_set hm]
    · rcases List.mem_cons.mp h with e | e
      · subst e
        have out : ∀ (us : List Nat) (σ : DEnv), i ∉ us → wipeE (σ.set i x) us = (wipeE σ us).set i x := by
          intro us
          induction us with
          | nil => intro σ _; rfl
          | cons u us ih =>
            intro σ hu
            show (wipeE (σ.set i x) us).set u none = ((wipeE σ us).set u none).set i x
            rw [ih σ (fun z => hu (List.mem_cons_of_mem _ z)), List.set_comm _ _ (fun e => hu (by rw [e]; exact List.mem_cons_self ..))]
        rw [out ws σ hm, List.set_set]
      · exact absurd e hm
def gV (i : Nat) : DG := fun d env => .ret (env.set i (some (.val d)))
theorem qgv {ws : List Nat} (i : Nat) {x : Str} (hN : X.N.Nodup) (hw : i ∈ ws := by decide) (hi : X.N[i]? = some x := by rfl) (hx : Loc X.env.scope x := by first | exact Or.inl rfl | exact Or.inr rfl) (hf : X.fn x = true ∨ X.env.scope.names.lookup x = some .local := by first | exact .inl rfl | exact .inr rfl) : QG S ws X (.Name x pos) (gV i) :=
  pg_weak (pg_name hN hi hx hf) fun v σ H Q ⟨G, F, env, d, g, r, q⟩ => q _ ⟨wipe_set hw, wipeE_set hw⟩ (g.setVal r)
def gsNil : DGs := fun ds env => match ds with
  | [] => .ret env
  | _ :: _ => .fail
def gsCons (g : DG) (gs : DGs) : DGs := fun ds env => match ds with
  | [] => .fail
  | d :: ds => g d env >>= gs ds
theorem qgs_nil {ws : List Nat} : QGs S ws X [] gsNil := pgs_weak pgs_nil fun vs σ H Q ⟨G, F, env, ds, g, r, q⟩ => by
  cases r with
  | nil => exact ⟨rfl, q _ ⟨rfl, rfl⟩ g⟩
  | cons _ _ => exact q.elim
theorem qgs_cons {ws : List Nat} {g1 : DG} {gs : DGs} (h1 : QG S ws X e g1) (h2 : QGs S ws X es gs) (hs : (assignEach (e :: es) X.env).map (·.2) = assign e X.env :: (assignEach es X.env).map (·.2) := by rfl) : QGs S ws X (e :: es) (gsCons g1 gs) :=
  pgs_weak (pgs_cons h1 h2 hs) fun vs σ H Q ⟨G, F, env, ds, g, r, q⟩ => by
    cases r with
    | nil => exact q.elim
    | cons r t => exact ⟨_, _, rfl, G, F, env, _, g, r, M.wp_mono (M.wpb q) fun env' q σ' o' g' => ⟨G, F, env', _, g', t, M.wp_mono q fun env2 q σ2 o2 g2 => q σ2 ⟨o2.1.trans o'.1, o2.2.trans o'.2⟩ g2⟩⟩
def gT (n : Nat) (gs : DGs) : DG := fun d env => match d with
  | .tup xs => if xs.length = n then gs xs env else .fail
  | _ => .fail
theorem qgt {ws : List Nat} {k : Nat} {gs : DGs} (n : Nat) (h : QGs S ws X es gs) (hc : X.calm = true := by rfl) (hn : (assignEach es X.env).length = n := by rfl) (hst : (assignEach es X.env).findIdx? (·.1) = none := by rfl) : QG S ws X (.Tuple es k pos) (gT n gs) :=
  pg_weak (pg_tup hc h hn hst) fun v σ H Q ⟨G, F, env, d, g, r, q⟩ => by
    cases d with
    | tup xs =>
      cases r with
      | tup h1 h2 h3 =>
        simp only [gT] at q
        split at q
        · exact ⟨_, _, rfl, .of (g.fh _ _ h1), by rw [← h2.len]; assumption, G, F, env, _, g, h2, q⟩
        · exact q.elim
    | _ => exact q.elim

/-! ### small statements -/
def mSetV (i : Nat) (m : DE) : DS := fun env => m env >>= fun d => .ret (.nx, env.set i (some (.val d)))
def mSetO (i : Nat) (m : DE) : DS := fun env => m env >>= fun d => .ret (.nx, env.set i (some (.own d)))
theorem qset (i : Nat) {x : Str} {pos' : Pos} (hN : X.N.Nodup) (he : QE S X e m) (hi : X.N[i]? = some x := by rfl) (hx : Loc X.env.scope x := by first | exact Or.inl rfl | exact Or.inr rfl) (hs : swapsWith e (some (.Name x pos')) pos.line X.env = pure false := by rfl)
    (hf : X.fn x = true ∨ X.env.scope.names.lookup x = some .local := by first | exact .inl rfl | exact .inr rfl) : QS S X (.Assign [.Name x pos'] e pos) (mSetV i m) :=
  ps_weak (ps_set hN hi hx he hs hf) fun D' σ H ⟨G, F, env, g, q⟩ => ⟨G, F, env, g, M.wp_mono (M.wpb q) fun d q v G1 F1 H1 e1 g1 r1 => q _ G1 F1 H1 e1 (g1.setVal r1)⟩
theorem qsetO (i : Nat) {x : Str} {pos' : Pos} (hN : X.N.Nodup) (he : QF S X e m) (hi : X.N[i]? = some x := by rfl) (hx : Loc X.env.scope x := by first | exact Or.inl rfl | exact Or.inr rfl) (hs : swapsWith e (some (.Name x pos')) pos.line X.env = pure false := by rfl)
    (hf : X.fn x = true ∨ X.env.scope.names.lookup x = some .local := by first | exact .inl rfl | exact .inr rfl) : QS S X (.Assign [.Name x pos'] e pos) (mSetO i m) :=
  ps_weak (ps_set hN hi hx he hs hf) fun D' σ H ⟨G, F, env, g, q⟩ => ⟨G, F, env, g, M.wp_mono (M.wpb q) fun d q p G1 F1 H1 e1 g1 r1 => q _ G1 F1 H1 e1 (g1.setOwn r1)⟩
def mAsg (g : DG) (m : DE) : DS := fun env => m env >>= fun d => g d env >>= fun env' => .ret (.nx, env')
theorem qasg (ws : List Nat) {tg : Expr} {gg : DG} (he : QE S X e m) (hg : QG S ws X tg gg) (hs : swapsWithSole [tg] e pos.line X.env = pure false := by rfl) (hw : swappedStores [tg] e X.env = pure none := by rfl)
    (h1 : (assignEach [tg] X.env).map (·.2) = [assign tg X.env] := by rfl) : QS S X (.Assign [tg] e pos) (mAsg gg m) :=
  ps_weak (ps_asg he hg hs hw h1) fun D' σ H ⟨G, F, env, g, q⟩ => ⟨G, F, env, g, M.wp_mono (M.wpb q) fun d q v G1 F1 H1 e1 g1 r1 => ⟨G1, F1, env, d, g1, r1, M.wp_mono (M.wpb q) fun env' q σ' _ g' => q σ' G1 F1 H1 e1 g'⟩⟩
/-- a, b = x, y -/
def mPar (i j : Nat) (ms : DA) : DS := fun env => ms env >>= fun ds => match ds with
  | [d, d'] => .ret (.nx, (env.set i (some (.val d))).set j (some (.val d')))
  | _ => .fail
theorem qpar (i j : Nat) {x y : Str} {px py pt : Pos} {kt k2 pt2} (hN : X.N.Nodup) (ha : QA S X [a, b] ms) (hi : X.N[i]? = some x := by rfl) (hj : X.N[j]? = some y := by rfl) (hij : i ≠ j := by decide)
    (hx : X.env.scope.names.lookup x = some .local := by rfl) (hy : X.env.scope.names.lookup y = some .local := by rfl) (hc : X.calm = true := by rfl)
    (hw : swappedStores [.Tuple [.Name x px, .Name y py] kt pt] (.Tuple [a, b] k2 pt2) X.env = pure (some [x, y]) := by rfl)
    (hs : swapsWithSole [.Tuple [.Name x px, .Name y py] kt pt] (.Tuple [a, b] k2 pt2) pos.line X.env = pure false := by rfl) :
    QS S X (.Assign [.Tuple [.Name x px, .Name y py] kt pt] (.Tuple [a, b] k2 pt2) pos) (mPar i j ms) :=
  ps_weak (ps_par hc hN hi hj hij hx hy ha hw hs) fun D' σ H ⟨G, F, env, g, q⟩ => ⟨G, F, env, g, M.wp_mono (M.wpb q) fun ds q vs G1 F1 H1 e1 g1 r1 => by
    cases r1 with
    | nil => exact q.elim
    | cons r t =>
      cases t with
      | nil => exact q.elim
      | cons r' t =>
        cases t with
        | nil => exact ⟨_, _, rfl, q _ G1 F1 H1 e1 ((g1.setVal r).setVal r')⟩
        | cons _ _ => exact q.elim⟩
def mPar3 (i j l : Nat) (ms : DA) : DS := fun env => ms env >>= fun ds => match ds with
  | [d, d', d''] => .ret (.nx, ((env.set i (some (.val d))).set j (some (.val d'))).set l (some (.val d'')))
  | _ => .fail
def mExpr (m : DE) : DS := fun env => m env >>= fun _ => .ret (.nx, env)
theorem qexpr (he : QE S X e m) (hs : swapsWith e none pos.line X.env = pure false := by rfl) : QS S X (.Expr e pos) (mExpr m) :=
  ps_weak (ps_expr he hs) fun D' σ H ⟨G, F, env, g, q⟩ => ⟨G, F, env, g, M.wp_mono (M.wpb q) fun d q v G1 F1 H1 e1 g1 r1 => q σ G1 F1 H1 e1 g1⟩
def mRet (m : DE) : DS := fun env => m env >>= fun d => .ret (.rt d, env)
theorem qret (he : QE S X e m) : QS S X (.Return (some e) pos) (mRet m) :=
  ps_weak (ps_ret he) fun D' σ H ⟨G, F, env, g, q⟩ => ⟨G, F, env, g, M.wp_mono (M.wpb q) fun d q v G1 F1 H1 e1 g1 r1 => q σ G1 F1 H1 e1 g1 v r1⟩
def mRetN : DS := fun env => .ret (.rt .non, env)
theorem qretN : QS S X (.Return none pos) mRetN := ps_weak ps_retN fun D' σ H ⟨G, F, env, g, q⟩ => q σ G F H (Ext.refl _ _) g .non .non
def mPass : DS := fun env => .ret (.nx, env)
def mBrk : DS := fun env => .ret (.bk, env)
def mCnt : DS := fun env => .ret (.ct, env)
theorem qpass : QS S X (.Pass pos) mPass := ps_weak ps_pass fun D' σ H ⟨G, F, env, g, q⟩ => q σ G F H (Ext.refl _ _) g
theorem qbreak : QS S X (.Break pos) mBrk := ps_weak ps_break fun D' σ H ⟨G, F, env, g, q⟩ => q σ G F H (Ext.refl _ _) g
theorem qcontinue : QS S X (.Continue pos) mCnt := ps_weak ps_continue fun D' σ H ⟨G, F, env, g, q⟩ => q σ G F H (Ext.refl _ _) g
/-- a way that is never walked: nothing is told -/
def mNever : DS := fun _ => .fail
theorem qnever {st : Stmt} : QS S X st mNever := ps_weak ps_never fun D' σ H ⟨G, F, env, g, q⟩ => q.elim
theorem qsnever {sts : List Stmt} : QSs S X sts mNever := pss_weak pss_never fun D' σ H ⟨G, F, env, g, q⟩ => q.elim
/-! ### blocks -/
def mSeq (m1 m2 : DS) : DS := fun env => m1 env >>= fun r => match r.1 with
  | .nx => m2 r.2
  | f => .ret (f, r.2)
variable {D' : Ends}
theorem postS_shift {G1 F1 : Hp} {r : Fl × DEnv} (x : Ext G F G1 F1) (h : PostS S G F D' r) : PostS S G1 F1 D' r := fun σ G' F' H' e g => h σ G' F' H' (x.trans e) g
theorem qs_nil : QSs S X [] mPass := pss_weak pss_nil fun D' σ H ⟨G, F, env, g, q⟩ => q σ G F H (Ext.refl _ _) g
theorem qs_one {st : Stmt} {m : DS} (h : QS S X st m) : QSs S X [st] m := pss_one h
theorem qs_cons {st : Stmt} {sts : List Stmt} {m1 m2 : DS} (h1 : QS S X st m1) (h2 : QSs S X sts m2) : QSs S X (st :: sts) (mSeq m1 m2) :=
  pss_weak (pss_cons h1 h2) fun D' σ H ⟨G, F, env, g, q⟩ => ⟨G, F, env, g, M.wp_mono (M.wpb q) fun r q σ' G' F' H' e g' => by
    obtain ⟨f, env'⟩ := r
    cases f with
    | nx => exact ⟨G', F', env', g', M.wp_mono q fun _ => postS_shift e⟩
    | bk => exact (show PostS S G F D' (.bk, env') from q) σ' G' F' H' e g'
    | ct => exact (show PostS S G F D' (.ct, env') from q) σ' G' F' H' e g'
    | rt d => exact (show PostS S G F D' (.rt d, env') from q) σ' G' F' H' e g'⟩
/-- from here on the list at name i stands still -/
def mFrz (i : Nat) (m : DS) : DS := fun env => match env[i]? with
  | some (some (.own d)) => m (env.set i (some (.val d)))
  | _ => m env
theorem pss_lk {sts : List Stmt} {t : TS} (h : PSs X sts t) : PSs X sts (fun D' σ H => ∃ p, Lk p H (t D' σ)) := ⟨fun pins s σ H D' I q => by
  obtain ⟨p, q | ⟨u, hu, mu, q⟩⟩ := q
  · exact h.run pins s σ H D' I q
  · obtain ⟨od, I2⟩ := I.lock hu mu
    exact h.run pins s σ _ D' I2 (q od)⟩
theorem Lk.mono {R R' : Hp → Prop} (h : Lk p H R) (k : ∀ H, R H → R' H) : Lk p H R' := by
  rcases h with h | ⟨u, hu, mu, h⟩
  · exact .inl (k _ h)
  · exact .inr ⟨u, hu, mu, fun od => k _ (h od)⟩
theorem qfrz (i : Nat) {sts : List Stmt} {m : DS} (h : QSs S X sts m) : QSs S X sts (mFrz i m) := pss_weak (pss_lk h) fun D' σ H ⟨G, F, env, g, q⟩ => by
  unfold mFrz at q
  split at q
  · rename_i d e
    obtain ⟨p, k⟩ := g.frzAt e
    exact ⟨p, k.mono fun H' ⟨G', F', x, g'⟩ => ⟨G', F', _, g', M.wp_mono q fun _ => postS_shift x⟩⟩
  · exact ⟨0, .inl ⟨G, F, env, g, q⟩⟩
def mIf (t : DT) (m1 m2 : DS) : DS := fun env => t env >>= fun k => if k then m1 env else m2 env
theorem qif {c : Expr} {s1 s2 : List Stmt} {m1 m2 : DS} (hc : QT S X c t) (h1 : QSs S X s1 m1) (h2 : QSs S X s2 m2) : QS S X (.If c s1 s2 pos) (mIf t m1 m2) :=
  ps_weak (ps_if hc h1 h2) fun D' σ H ⟨G, F, env, g, q⟩ => ⟨G, F, env, g, M.wp_mono (M.wpb q) fun k q G1 F1 H1 e1 g1 => by
    cases k with
    | true => rw [if_pos rfl] at q ⊢; exact ⟨G1, F1, env, g1, M.wp_mono q fun _ => postS_shift e1⟩
    | false => rw [if_neg (by decide)] at q ⊢; exact ⟨G1, F1, env, g1, M.wp_mono q fun _ => postS_shift e1⟩⟩
/-! ### while: at most n turns are told -/
def mWhile (t : DT) (mb : DS) : Nat → DS
  | 0 => fun _ => .fail
  | n + 1 => fun env => t env >>= fun k => if k then mb env >>= fun r => (match r.1 with
    | .nx => mWhile t mb n r.2
    | .ct => mWhile t mb n r.2
    | .bk => .ret (.nx, r.2)
    | .rt d => .ret (.rt d, r.2)) else .ret (.nx, env)
theorem qwhile (n : Nat) {c : Expr} {body : List Stmt} {mb : DS} (hc : QT S X c t) (hb : QSs S X body mb) (hp : PassesOwn (model X.prog X.w) X.A X.env X.xe := by exact PassesOwn.never) : QS S X (.While c body [] pos) (mWhile t mb n) :=
  ps_weak (ps_while hp hc hb) fun D' σ H ⟨G, F, env, g, q⟩ => by
    refine ⟨fun m σ H => ∃ G2 F2 env2, Ext G F G2 F2 ∧ Good S G2 F2 σ H env2 ∧ (mWhile t mb m env2).wp (PostS S G F D'), ⟨n, G, F, env, Ext.refl _ _, g, q⟩, fun m σ H ⟨G2, F2, env2, x2, g2, q⟩ => ?_⟩
    cases m with
    | zero => exact q.elim
    | succ m =>
      refine ⟨G2, F2, env2, g2, M.wp_mono (M.wpb q) fun k q G3 F3 H3 e3 g3 => ?_⟩
      cases k with
      | false =>
        rw [if_neg (by decide)] at q ⊢
        exact q σ G3 F3 H3 (x2.trans e3) g3
      | true =>
        rw [if_pos rfl] at q ⊢
        refine ⟨fun σ H => ∃ G2 F2 env2, Ext G F G2 F2 ∧ Good S G2 F2 σ H env2 ∧ (mWhile t mb m env2).wp (PostS S G F D'), fun σ' H' h => ⟨m, Nat.lt_succ_self m, h⟩, G3, F3, env2, g3, M.wp_mono (M.wpb q) fun r q σ4 G4 F4 H4 e4 g4 => ?_⟩
        obtain ⟨f, env4⟩ := r
        cases f with
        | nx => exact ⟨G4, F4, env4, x2.trans (e3.trans e4), g4, q⟩
        | ct => exact ⟨G4, F4, env4, x2.trans (e3.trans e4), g4, q⟩
        | bk => exact q σ4 G4 F4 H4 (x2.trans (e3.trans e4)) g4
        | rt d => exact q σ4 G4 F4 H4 (x2.trans (e3.trans e4)) g4
/-! ### what is walked. imFor: by a for statement; imComp vs: within a comprehension whose own names stand at vs -/
structure IM where
  rd : SA → Hp → L2.St → DEnv → D → V → Prop
  P : Hp → L2.St → DEnv → Hp → L2.St → DEnv → Prop
  ok : DEnv → Bool
def notOwn (env : DEnv) (j : Nat) : Bool := match env[j]? with
  | some (some (.own _)) => false
  | some (some (.bor _)) => false
  | _ => true
def imFor : IM := ⟨fun S F _ _ d v => Rp S F d v, fun F' _ _ F2 _ _ => Sub F' F2, fun _ => true⟩
def imComp (vs : List Nat) : IM := ⟨RdB, fun F' σ env F2 σ2 env2 => Sub F' F2 ∧ ∀ j, j ∉ vs → σ2[j]? = σ[j]? ∧ env2[j]? = env[j]?, fun env => vs.all (notOwn env)⟩
structure IMOk (I : IM) : Prop where
  keep : ∀ {S : SA} {F' F2 : Hp} {σ σ2 : L2.St} {env env2 : DEnv} {d : D} {v : V}, I.ok env = true → I.P F' σ env F2 σ2 env2 → I.rd S F' σ env d v → I.rd S F2 σ2 env2 d v
  toB : ∀ {S : SA} {F : Hp} {σ : L2.St} {env : DEnv} {d : D} {v : V}, I.rd S F σ env d v → RdB S F σ env d v
theorem imForOk : IMOk imFor := ⟨fun _ s r => Rp.mono s r, fun r => .inl r⟩
theorem imCompOk (vs : List Nat) : IMOk (imComp vs) := ⟨fun {S F' F2 σ σ2 env env2 d v} ok s r => by
  rcases r with r | ⟨i, h1, h2⟩
  · exact .inl (r.mono s.1)
  · have ni : i ∉ vs := fun hm => by
      have := List.all_eq_true.mp ok i hm
      rcases h1 with h1 | h1 <;> simp [notOwn, h1] at this
    obtain ⟨q1, q2⟩ := s.2 i ni
    exact .inr ⟨i, h1.imp q2.trans q2.trans, q1.trans h2⟩, fun r => r⟩
def PostX (I : IM) (S : SA) (G F : Hp) (σ : L2.St) (env : DEnv) (Q : VK) (d : D) : Prop := ∀ v G' F' H', Ext G F G' F' → Good S G' F' σ H' env → I.rd S F' σ env d v → Q v H'
def TX_ (I : IM) (S : SA) (m : DE) : TE := fun σ H Q => ∃ G F env, Good S G F σ H env ∧ (m env).wp (PostX I S G F σ env Q)
def QX (I : IM) (S : SA) (X : Cx) (e : Expr) (m : DE) : Prop := PE X e (TX_ I S m)
theorem QE.xf (h : QE S X e m) : QX imFor S X e m := h
theorem QB.xc {vs : List Nat} (h : QB S X e m) : QX (imComp vs) S X e m := h
structure ItsD (S : SA) (J : It) (P : Hp → L2.St → DEnv → Prop) (ds : List D) : Prop where
  go : ∀ (i : Nat) G F σ H env, P F σ env → Good S G F σ H env → i < ds.length → J.go i H
  stop : ∀ (i : Nat) G F σ H env, P F σ env → Good S G F σ H env → ds.length ≤ i → J.stop i H
  yld : ∀ (i : Nat) G F σ H env x H' d, P F σ env → Good S G F σ H env → ds[i]? = some d → J.yld i H x H' → ∃ G' F', Ext G F G' F' ∧ Good S G' F' σ H' env ∧ Rp S F' d x
def TIx (I : IM) (S : SA) (m : DI) : TI := fun σ H R => ∃ G F env, Good S G F σ H env ∧ I.ok env = true ∧ (m env).wp fun ds => ∀ J G' F' H', Ext G F G' F' → Good S G' F' σ H' env → ItsD S J (I.P F' σ env) ds → ds.length ≤ sizeLine → R J H'
def QI (I : IM) (S : SA) (X : Cx) (tg e : Expr) (m : DI) : Prop := PI X tg e (TIx I S m)
/-! a list, a tuple, a text -/
theorem its_list {I : IM} (O : IMOk I) {K : PySem.W.Frag} {xs : List D} {a : Addr} (ok : I.ok env = true) (r : I.rd S F' σ env (.lst xs) (.ref a)) : ItsD S (Itl K a) (I.P F' σ env) xs where
  go := fun i G2 F2 σ2 H2 env2 hp g hi => by
    obtain ⟨p, vs, e, h1, l1, _⟩ := (O.toB (O.keep ok hp r)).lst g
    cases e
    have : i < vs.length := by rw [← l1.len]; exact hi
    exact ⟨vs, vs[i], .of h1, by simp [this]⟩
  stop := fun i G2 F2 σ2 H2 env2 hp g hi => by
    obtain ⟨p, vs, e, h1, l1, _⟩ := (O.toB (O.keep ok hp r)).lst g
    cases e
    exact ⟨vs, .of h1, by rw [← l1.len]; exact hi⟩
  yld := fun i G2 F2 σ2 H2 env2 x H3 d hp g hd y => by
    obtain ⟨p, vs, e, h1, l1, _⟩ := (O.toB (O.keep ok hp r)).lst g
    cases e
    obtain ⟨e, y⟩ := y
    subst e
    obtain ⟨v, hv, rv⟩ := l1.get hd
    have e2 := y vs (.of h1)
    rw [hv] at e2
    cases e2
    exact ⟨G2, F2, Ext.refl _ _, g, rv⟩
theorem its_tup {I : IM} (O : IMOk I) {K : PySem.W.Frag} {xs : List D} {a : Addr} (ok : I.ok env = true) (r : I.rd S F' σ env (.tup xs) (.ref a)) : ItsD S (Itt K a) (I.P F' σ env) xs where
  go := fun i G2 F2 σ2 H2 env2 hp g hi => by
    obtain ⟨p, vs, e, f1, h1, l1, _⟩ := (O.toB (O.keep ok hp r)).tup g
    cases e
    have : i < vs.length := by rw [← l1.len]; exact hi
    exact ⟨vs, vs[i], .of h1, by simp [this]⟩
  stop := fun i G2 F2 σ2 H2 env2 hp g hi => by
    obtain ⟨p, vs, e, f1, h1, l1, _⟩ := (O.toB (O.keep ok hp r)).tup g
    cases e
    exact ⟨vs, .of h1, by rw [← l1.len]; exact hi⟩
  yld := fun i G2 F2 σ2 H2 env2 x H3 d hp g hd y => by
    obtain ⟨p, vs, e, f1, h1, l1, _⟩ := (O.toB (O.keep ok hp r)).tup g
    cases e
    obtain ⟨e, y⟩ := y
    subst e
    obtain ⟨v, hv, rv⟩ := l1.get hd
    have e2 := y vs (.of h1)
    rw [hv] at e2
    cases e2
    exact ⟨G2, F2, Ext.refl _ _, g, rv⟩
def signs (x : Str) : List D := x.cps.toList.map fun c => D.str ⟨#[c]⟩
theorem its_str {P : Hp → L2.St → DEnv → Prop} {x : Str} (ok : PyData.strOk x = true) : ItsD S (L2.Its x) P (signs x) where
  go := fun i G2 F2 σ2 H2 env2 hp g hi => by
    unfold signs at hi
    rw [List.length_map, Array.length_toList] at hi
    exact hi
  stop := fun i G2 F2 σ2 H2 env2 hp g hi => by
    unfold signs at hi
    rw [List.length_map, Array.length_toList] at hi
    exact hi
  yld := fun i G2 F2 σ2 H2 env2 v H3 d hp g hd y => by
    obtain ⟨e, c, hc, ev⟩ := y
    subst e ev
    unfold signs at hd
    rw [List.getElem?_map, Array.getElem?_toList, hc] at hd
    cases hd
    refine ⟨G2, F2, Ext.refl _ _, g, .str _ ?_ (by show 1 ≤ sizeLine; decide)⟩
    unfold PyData.strOk at ok ⊢
    rw [Array.all_eq_true_iff_forall_mem] at ok
    have hm : c ∈ x.cps := Array.mem_of_getElem? hc
    simpa using ok c hm
/-- a list, a tuple or a text, as it comes -/
def iAny (K : PySem.W.Frag) (tl : TE) : TI := fun σ H R => tl σ H fun x H1 => (∃ a, x = .ref a ∧ (∃ xs, SqL K H1 a xs) ∧ R (Itl K a) H1) ∨ (∃ a, x = .ref a ∧ (∃ xs, SqT K H1 a xs) ∧ R (Itt K a) H1) ∨ ∃ y, x = .str y ∧ R (L2.Its y) H1
theorem pi_any {tg l : Expr} {tl : TE} (hl : PE X l tl) : PI X tg l (iAny X.K tl) := by
  refine ⟨fun pins s σ H R I h => ?_⟩
  refine thn (hl.run pins s σ H _ I h) fun v s1 ⟨x, H1, I1, r1, q1⟩ => ?_
  rcases q1 with q1 | q1 | q1
  · obtain ⟨a, e, ⟨xs, hq⟩, q⟩ := q1
    subst e
    cases r1
    obtain ⟨its, rv, p, hz⟩ := I1.list hq
    refine wpAny_pyIter_list p.isList ?_
    refine ⟨s1.heap.objs.size, [s1.heap.objs.size], _, _, H1, rfl, I1.kept (t' := s1.toks) fun b o e => Heap.get?_push_of_some _ e, turn_list a _, ⟨_, Heap.get?_push_size _ rfl, rfl, rfl⟩, fun b hb => ?_, q⟩
    have e : b = s1.heap.objs.size := by simpa using hb
    subst e
    exact I1.fpOk (Nat.le_refl _) (I1.hok.fresh (Nat.le_refl _))
  · obtain ⟨a, e, ⟨xs, hq⟩, q⟩ := q1
    subst e
    cases r1
    obtain ⟨its, rv, p, hz⟩ := I1.tuple hq
    refine wpAny_pyIter_tuple (show s1.heap.IsTuple a its.toArray from p) ?_
    refine ⟨s1.heap.objs.size, [s1.heap.objs.size], _, _, H1, rfl, I1.kept (t' := s1.toks) fun b o e => Heap.get?_push_of_some _ e, turn_tuple a _, ⟨_, Heap.get?_push_size _ rfl, rfl, rfl⟩, fun b hb => ?_, q⟩
    have e : b = s1.heap.objs.size := by simpa using hb
    subst e
    exact I1.fpOk (Nat.le_refl _) (I1.hok.fresh (Nat.le_refl _))
  · obtain ⟨x, e, q⟩ := q1
    subst e
    obtain ⟨t, rfl⟩ := r1
    cases ha : x.cps.all (· < 128)
    · exact wpAny_pyIter_wide ha (pi_one (tk := s1.toks) I1 _ (turn_str _ x t "str_iterator" (.inr rfl)) ⟨_, Heap.get?_push_size _ rfl, rfl, rfl⟩ q)
    · exact wpAny_pyIter_ascii ha (pi_one (tk := s1.toks) I1 _ (turn_str _ x t "str_ascii_iterator" (.inl rfl)) ⟨_, Heap.get?_push_size _ rfl, rfl, rfl⟩ q)
def itemsM : D → M (List D)
  | .lst xs => .ret xs
  | .tup xs => .ret xs
  | .str x => .ret (signs x)
  | _ => .fail
def iOver (m : DE) : DI := fun env => m env >>= itemsM
theorem qi_any {I : IM} (O : IMOk I) {tg l : Expr} (hl : QX I S X l m) : QI I S X tg l (iOver m) :=
  pi_weak (pi_any hl) fun σ H R ⟨G, F, env, g, ok, q⟩ => ⟨G, F, env, g, M.wp_mono (M.wpb q) fun d q v G1 F1 H1 e1 g1 r1 => by
    cases d with
    | lst xs =>
      obtain ⟨p, vs, rfl, h1, l1, z1⟩ := (O.toB r1).lst g1
      exact .inl ⟨p, rfl, ⟨vs, .of h1⟩, q _ G1 F1 H1 e1 g1 (its_list O ok r1) (by rw [l1.len]; exact z1)⟩
    | tup xs =>
      obtain ⟨p, vs, rfl, f1, h1, l1, z1⟩ := (O.toB r1).tup g1
      exact .inr (.inl ⟨p, rfl, ⟨vs, .of h1⟩, q _ G1 F1 H1 e1 g1 (its_tup O ok r1) (by rw [l1.len]; exact z1)⟩)
    | str x =>
      obtain ⟨rfl, ok', z⟩ := (O.toB r1).str g1
      exact .inr (.inr ⟨x, rfl, q _ G1 F1 H1 e1 g1 (its_str ok') (by unfold signs; rw [List.length_map, Array.length_toList]; exact z)⟩)
    | _ => exact q.elim⟩
/-! range -/
theorem its_rng {P : Hp → L2.St → DEnv → Prop} {a b : Int} : ItsD S (Itr a (b - a).toNat) P (rgD a b) where
  go := fun i G2 F2 σ2 H2 env2 hp g hi => by
    unfold rgD at hi
    rw [List.length_map, List.length_range] at hi
    exact hi
  stop := fun i G2 F2 σ2 H2 env2 hp g hi => by
    unfold rgD at hi
    rw [List.length_map, List.length_range] at hi
    exact hi
  yld := fun i G2 F2 σ2 H2 env2 v H3 d hp g hd y => by
    obtain ⟨e, ev⟩ := y
    subst e ev
    unfold rgD at hd
    rw [List.getElem?_map] at hd
    cases hr : (List.range (b - a).toNat)[i]? with
    | none => rw [hr] at hd; cases hd
    | some j =>
      rw [hr] at hd
      obtain ⟨hl, e⟩ := List.getElem?_eq_some_iff.mp hr
      rw [List.getElem_range] at e
      subst e
      cases hd
      exact ⟨G2, F2, Ext.refl _ _, g, .int _⟩
theorem rgD_le {a b : Int} (h : (b - a).toNat ≤ 2 ^ 24) : (rgD a b).length ≤ sizeLine := by
  unfold rgD
  rw [List.length_map, List.length_range, sizeLine_eq]
  exact h
def iRg1 (m : DE) : DI := fun env => m env >>= fun x => asI x >>= fun j => if rgOk 0 j then .ret (rgD 0 j) else .fail
def iRg2 (ma mb : DE) : DI := fun env => ma env >>= fun x => mb env >>= fun y => asI x >>= fun i => asI y >>= fun j => if rgOk i j then .ret (rgD i j) else .fail
theorem qi_rg1 {I : IM} {tg : Expr} (hg : Gl X "range") (hm : X.mg "range" = none) (ha : QB S X a m) (n1 : starEach [a] X.env = (false, eval a X.env) :: starEach [] X.env := by rfl) (hs : starEach [a] X.env = [(false, eval a X.env)] := by rfl) : QI I S X tg (.Call (.Name "range" pp) [a] [] pos) (iRg1 m) :=
  pi_weak (pi_range1 hg hm (pa_cons ha pa_nil n1) hs) fun σ H R ⟨G, F, env, g, ok, q⟩ => ⟨G, F, env, g, M.wp_mono (M.wpb q) fun d q v G1 F1 H1 e1 g1 r1 => by
    obtain ⟨j, ej, q2⟩ := asI_wp (M.wpb q)
    subst ej
    obtain rfl := r1.int g1
    split at q2
    · have ok2 := rgOk_iff (by assumption)
      obtain ⟨_, _, b1, b2, b5⟩ := ok2
      refine ⟨j, rfl, b1, b2, q2 _ G1 F1 H1 e1 g1 ?_ (rgD_le b5)⟩
      have := its_rng (S := S) (P := I.P F1 σ env) (a := 0) (b := j)
      rw [Int.sub_zero] at this
      exact this
    · exact q2.elim⟩
theorem qi_rg2 {I : IM} {tg : Expr} (hg : Gl X "range") (hm : X.mg "range" = none) (ha : QB S X a ma) (hb : QB S X b mb) (n1 : starEach [a, b] X.env = (false, eval a X.env) :: starEach [b] X.env := by rfl) (n2 : starEach [b] X.env = (false, eval b X.env) :: starEach [] X.env := by rfl)
    (hs : starEach [a, b] X.env = [(false, eval a X.env), (false, eval b X.env)] := by rfl) (hs2 : starEach [b] X.env = [(false, eval b X.env)] := by rfl) : QI I S X tg (.Call (.Name "range" pp) [a, b] [] pos) (iRg2 ma mb) :=
  pi_weak (pi_range2 hg hm (pa_cons ha (pa_cons hb pa_nil n2) n1) hs hs2) fun σ H R ⟨G, F, env, g, ok, q⟩ => ⟨G, F, env, g, M.wp_mono (M.wpb q) fun d q v G1 F1 H1 e1 g1 r1 => ⟨G1, F1, env, g1, M.wp_mono (M.wpb q) fun d2 q v2 G2 F2 H2 e2 g2 r2 => by
    obtain ⟨i, ei, q1⟩ := asI_wp (M.wpb q)
    obtain ⟨j, ej, q2⟩ := asI_wp (M.wpb q1)
    subst ei ej
    obtain rfl := r1.int g1
    obtain rfl := r2.int g2
    split at q2
    · have ok2 := rgOk_iff (by assumption)
      obtain ⟨b1, b2, b3, b4, b5⟩ := ok2
      exact ⟨i, j, rfl, ⟨b1, b2, b3, b4⟩, q2 _ G2 F2 H2 (e1.trans e2) g2 its_rng (rgD_le b5)⟩
    · exact q2.elim⟩⟩
/-! enumerate(list) -/
def enumD : Nat → List D → List D
  | _, [] => []
  | i, d :: ds => .tup [.int (i : Int), d] :: enumD (i + 1) ds
theorem enumD_len : ∀ (k : Nat) (ds : List D), (enumD k ds).length = ds.length
  | _, [] => rfl
  | k, d :: ds => congrArg (· + 1) (enumD_len (k + 1) ds)
theorem enumD_get : ∀ (k : Nat) (ds : List D) (i : Nat) (x : D), (enumD k ds)[i]? = some x → ∃ d, ds[i]? = some d ∧ x = .tup [.int ((k + i : Nat) : Int), d]
  | _, [], i, x, h => by simp [enumD] at h
  | k, d :: ds, 0, x, h => by simp [enumD] at h; exact ⟨d, rfl, h.symm⟩
  | k, d :: ds, i + 1, x, h => by
    obtain ⟨e, h1, h2⟩ := enumD_get (k + 1) ds i x (by simpa [enumD] using h)
    exact ⟨e, by simpa using h1, by rw [h2, show k + 1 + i = k + (i + 1) by omega]⟩
theorem its_enum {I : IM} (O : IMOk I) {K : PySem.W.Frag} {xs : List D} {a : Addr} (ok : I.ok env = true) (r : I.rd S F' σ env (.lst xs) (.ref a)) : ItsD S (Ite K a) (I.P F' σ env) (enumD 0 xs) where
  go := fun i G2 F2 σ2 H2 env2 hp g hi => by
    obtain ⟨p, vs, e, h1, l1, _⟩ := (O.toB (O.keep ok hp r)).lst g
    cases e
    have : i < vs.length := by rw [← l1.len]; rw [enumD_len] at hi; exact hi
    exact ⟨vs, vs[i], .of h1, by simp [this]⟩
  stop := fun i G2 F2 σ2 H2 env2 hp g hi => by
    obtain ⟨p, vs, e, h1, l1, _⟩ := (O.toB (O.keep ok hp r)).lst g
    cases e
    exact ⟨vs, .of h1, by rw [← l1.len]; rw [enumD_len] at hi; exact hi⟩
  yld := fun i G2 F2 σ2 H2 env2 x H3 d hp g hd y => by
    obtain ⟨p, vs, e, h1, l1, _⟩ := (O.toB (O.keep ok hp r)).lst g
    cases e
    obtain ⟨T, y, rfl, nT, rfl, fy⟩ := y
    obtain ⟨d', hd', rfl⟩ := enumD_get 0 xs i d hd
    obtain ⟨v, hv, rv⟩ := l1.get hd'
    have e2 := fy vs (.of h1)
    rw [hv] at e2
    cases e2
    obtain ⟨x3, g3⟩ := g.newFrz nT (.tup [.int (i : Nat), y])
    refine ⟨_, _, x3, g3, .tup upd_same (.cons ?_ (.cons (rv.mono x3.f) .nil)) (by show 2 ≤ sizeLine; decide)⟩
    rw [Nat.zero_add]
    exact .int _
def iEnumD (m : DE) : DI := fun env => m env >>= fun x => match x with
  | .lst xs => .ret (enumD 0 xs)
  | _ => .fail
theorem qi_enum {I : IM} (O : IMOk I) {tpos : Pos} {elts : List Expr} {kk : Nat} (hg : Gl X "enumerate") (hm : X.mg "enumerate" = none) (ha : QX I S X a m) (n1 : starEach [a] X.env = (false, eval a X.env) :: starEach [] X.env := by rfl) (hs : starEach [a] X.env = [(false, eval a X.env)] := by rfl) :
    QI I S X (.Tuple elts kk tpos) (.Call (.Name "enumerate" pp) [a] [] pos) (iEnumD m) :=
  pi_weak (pi_enum hg hm (pa_cons ha pa_nil n1) hs) fun σ H R ⟨G, F, env, g, ok, q⟩ => ⟨G, F, env, g, M.wp_mono (M.wpb q) fun d q v G1 F1 H1 e1 g1 r1 => by
    cases d with
    | lst xs =>
      obtain ⟨p, vs, rfl, h1, l1, z1⟩ := (O.toB r1).lst g1
      exact ⟨p, vs, rfl, .of h1, q _ G1 F1 H1 e1 g1 (its_enum O ok r1) (by rw [enumD_len, l1.len]; exact z1)⟩
    | _ => exact q.elim⟩
/-! ### for -/
def mForL (gg : DG) (mb : DS) : List D → DS
  | [] => fun env => .ret (.nx, env)
  | d :: ds => fun env => gg d env >>= fun env1 => mb env1 >>= fun r => match r.1 with
    | .nx => mForL gg mb ds r.2
    | .ct => mForL gg mb ds r.2
    | .bk => .ret (.nx, r.2)
    | .rt d => .ret (.rt d, r.2)
def mFor (mi : DI) (gg : DG) (mb : DS) : DS := fun env => mi env >>= fun ds => mForL gg mb ds env
theorem qfor (ws : List Nat) {tg iter : Expr} {body : List Stmt} {mi : DI} {gg : DG} {mb : DS} (hi : QI imFor S X tg iter mi) (hg : QG S ws X tg gg) (hb : QSs S X body mb) (hp : PassesOwn (model X.prog X.w) X.A X.env X.xe := by exact PassesOwn.never) (hc : X.calm = true := by rfl)
    (hs : ∀ x, foldedSetIterable iter X.env x = pure x := by intro _; rfl) : QS S X (.For tg iter body [] pos) (mFor mi gg mb) :=
  ps_weak (ps_for hp hc hi hg hb hs) fun D' σ H ⟨G, F, env, g, q⟩ => ⟨G, F, env, g, rfl, M.wp_mono (M.wpb q) fun ds q J G1 F1 H1 e1 g1 its _ => by
    refine ⟨fun i m σ H => m = ds.length - i ∧ i ≤ ds.length ∧ ∃ G2 F2 env2, Ext G F G2 F2 ∧ Sub F1 F2 ∧ Good S G2 F2 σ H env2 ∧ (mForL gg mb (ds.drop i) env2).wp (PostS S G F D'), ⟨ds.length, by simp, Nat.zero_le _, G1, F1, env, e1, Sub.refl _, g1, by simpa using q⟩, ?_⟩
    rintro i m σ H ⟨rfl, hi, G2, F2, env2, x2, s2, g2, q⟩
    by_cases hlt : i < ds.length
    · refine .inr ⟨its.go i G2 F2 σ H env2 s2 g2 hlt, fun σ H => ∃ G2 F2 env2, Ext G F G2 F2 ∧ Sub F1 F2 ∧ Good S G2 F2 σ H env2 ∧ (mForL gg mb (ds.drop (i + 1)) env2).wp (PostS S G F D'),
        fun σ' H' h => ⟨ds.length - (i + 1), by omega, rfl, hlt, h⟩, fun x H' y => ?_⟩
      obtain ⟨G3, F3, e3, g3, r3⟩ := its.yld i G2 F2 σ H env2 x H' ds[i] s2 g2 (by simp [hlt]) y
      rw [List.drop_eq_getElem_cons hlt] at q
      refine ⟨G3, F3, env2, ds[i], g3, r3, M.wp_mono (M.wpb q) fun env3 q σ3 _ g3' => ⟨G3, F3, env3, g3', M.wp_mono (M.wpb q) fun r q σ4 G4 F4 H4 e4 g4 => ?_⟩⟩
      have xx := x2.trans (e3.trans e4)
      obtain ⟨f, env4⟩ := r
      cases f with
      | nx => exact ⟨G4, F4, env4, xx, s2.trans (e3.f.trans e4.f), g4, q⟩
      | ct => exact ⟨G4, F4, env4, xx, s2.trans (e3.f.trans e4.f), g4, q⟩
      | bk => exact q σ4 G4 F4 H4 xx g4
      | rt d => exact q σ4 G4 F4 H4 xx g4
    · have e : i = ds.length := by omega
      subst e
      rw [List.drop_length] at q
      exact .inl ⟨its.stop _ G2 F2 σ H env2 s2 g2 (Nat.le_refl _), q σ G2 F2 H x2 g2⟩⟩
end
end DL

set_option Elab.async false
set_option linter.all false
set_option maxRecDepth 100000
/-! DL7: comprehensions, methods of lists, calls of the text's own defs, a def by its body. -/
namespace DL
open PySem PySem.Spec L2
open PyProof.Rows hiding St

section
variable {S : SA} {X : Cx} {G F G' F' H H' : Hp} {σ : L2.St} {env : DEnv} {d : D} {v : V} {p : Addr} {Q : VK} {m ma mb mc : DE} {t ta tb : DT} {ms : DA} {a b c e : Expr} {es rest : List Expr} {pos pp : Pos} {x : Str} {i : Nat}
theorem wipeE_out : ∀ {vs : List Nat} {env : DEnv} {i : Nat}, i ∉ vs → (wipeE env vs)[i]? = env[i]?
  | [], _, _, _ => rfl
  | v :: vs, env, i, h => by
    have h1 : v ≠ i := fun e => h (by rw [e]; exact List.mem_cons_self)
    have h2 : i ∉ vs := fun m => h (List.mem_cons_of_mem _ m)
    unfold wipeE
    rw [List.getElem?_set_ne h1]
    exact wipeE_out h2
theorem wipeE_in : ∀ {vs : List Nat} {env : DEnv} {i : Nat} {sl : Sl}, i ∈ vs → (wipeE env vs)[i]? ≠ some (some sl)
  | v :: vs, env, i, sl, h => fun z => by
    unfold wipeE at z
    by_cases h1 : v = i
    · subst h1
      by_cases hv : v < (wipeE env vs).length
      · rw [List.getElem?_set_self hv] at z; cases z
      · rw [List.getElem?_eq_none (by simpa using hv)] at z; cases z
    · rw [List.getElem?_set_ne h1] at z
      rcases List.mem_cons.mp h with e | e
      · exact h1 e.symm
      · exact wipeE_in e z
theorem wipeE_len (env : DEnv) : ∀ vs : List Nat, (wipeE env vs).length = env.length
  | [] => rfl
  | v :: vs => by unfold wipeE; rw [List.length_set, wipeE_len env vs]
theorem wipe_comm1 (σ : L2.St) (v : Nat) : ∀ vs : List Nat, wipe (σ.set v none) vs = (wipe σ vs).set v none
  | [] => rfl
  | u :: us => by
    unfold wipe
    rw [wipe_comm1 σ v us]
    by_cases h : v = u
    · subst h; rfl
    · rw [List.set_comm _ _ h]
theorem wipe_idem (σ : L2.St) : ∀ vs : List Nat, wipe (wipe σ vs) vs = wipe σ vs
  | [] => rfl
  | v :: vs => by
    show (wipe ((wipe σ vs).set v none) vs).set v none = (wipe σ vs).set v none
    rw [wipe_comm1, wipe_idem σ vs, List.set_set]
theorem wipeE_comm1 (σ : DEnv) (v : Nat) : ∀ vs : List Nat, wipeE (σ.set v none) vs = (wipeE σ vs).set v none
  | [] => rfl
  | u :: us => by
    unfold wipeE
    rw [wipeE_comm1 σ v us]
    by_cases h : v = u
    · subst h; rfl
    · rw [List.set_comm _ _ h]
theorem wipeE_idem (σ : DEnv) : ∀ vs : List Nat, wipeE (wipeE σ vs) vs = wipeE σ vs
  | [] => rfl
  | v :: vs => by
    show (wipeE ((wipeE σ vs).set v none) vs).set v none = (wipeE σ vs).set v none
    rw [wipeE_comm1, wipeE_idem σ vs, List.set_set]
theorem Good.wiped (g : Good S G F σ H env) (vs : List Nat) : Good S G F (wipe σ vs) H (wipeE env vs) := by
  have sl' : ∀ (i : Nat) (sl : Sl), (wipeE env vs)[i]? = some (some sl) → env[i]? = some (some sl) ∧ (wipe σ vs)[i]? = σ[i]? := fun i sl e => by
    have hi : i ∉ vs := fun hm => wipeE_in hm e
    rw [wipeE_out hi] at e
    exact ⟨e, wipe_out hi⟩
  refine ⟨g.kp, g.fg, g.st, g.ns, g.nc, by rw [wipe_length, wipeE_len]; exact g.len, fun i sl e => ?_, fun j k dj dk a e1 e2 e3 e4 => ?_⟩
  · obtain ⟨e1, e2⟩ := sl' i sl e
    have q := g.slot i sl e1
    cases sl with
    | val d => obtain ⟨u, h1, h2⟩ := q; exact ⟨u, e2.trans h1, h2⟩
    | bor d => obtain ⟨u, h1, h2⟩ := q; exact ⟨u, e2.trans h1, h2⟩
    | own d => obtain ⟨u, h1, h2⟩ := q; exact ⟨u, e2.trans h1, h2⟩
  · obtain ⟨f1, f2⟩ := sl' j _ e1
    obtain ⟨f3, f4⟩ := sl' k _ e2
    exact g.dist j k dj dk a f1 f3 (f2.symm.trans e3) (f4.symm.trans e4)
/-- back from a block: the names as they stood -/
theorem Good.back {σ1 : L2.St} {env1 : DEnv} {G1 F1 : Hp} {H1 : Hp} {vs : List Nat} (g : Good S G F σ H env) (ok : vs.all (notOwn env) = true) (o : Only vs (wipe σ vs) (wipeE env vs) σ1 env1) (s : Sub F F1) (g1 : Good S G1 F1 σ1 H1 env1) : Good S G1 F1 σ H1 env := by
  have hs : ∀ j, j ∉ vs → σ1[j]? = σ[j]? ∧ env1[j]? = env[j]? := fun j hj => by
    have e1 : (wipe σ1 vs)[j]? = (wipe (wipe σ vs) vs)[j]? := by rw [o.1]
    have e2 : (wipeE env1 vs)[j]? = (wipeE (wipeE env vs) vs)[j]? := by rw [o.2]
    rw [wipe_out hj, wipe_out hj, wipe_out hj] at e1
    rw [wipeE_out hj, wipeE_out hj, wipeE_out hj] at e2
    exact ⟨e1, e2⟩
  have hv : ∀ (i : Nat) (di : D), env[i]? = some (some (.own di)) → i ∉ vs := fun i di e hm => by
    have := List.all_eq_true.mp ok i hm
    simp [notOwn, e] at this
  refine ⟨g1.kp, g1.fg, g1.st, g1.ns, g1.nc, g.len, fun i sl e => ?_, g.dist⟩
  cases sl with
  | val d => obtain ⟨u, h1, h2⟩ := g.slot i _ e; exact ⟨u, h1, h2.mono s⟩
  | bor d =>
    have hi : i ∉ vs := fun hm => by
      have := List.all_eq_true.mp ok i hm
      simp [notOwn, e] at this
    obtain ⟨q1, q2⟩ := hs i hi
    obtain ⟨u, h1, h2⟩ := g1.slot i _ (q2.trans e)
    exact ⟨u, q1.symm.trans h1, h2⟩
  | own d =>
    have hi := hv i d e
    obtain ⟨q1, q2⟩ := hs i hi
    obtain ⟨u, h1, h2⟩ := g1.slot i _ (q2.trans e)
    exact ⟨u, q1.symm.trans h1, h2⟩
def delH (G : Hp) (p : Addr) : Hp := fun a => if a = p then none else G a
/-- no name that is looked at holds p -/
def NoBor (σ : L2.St) (env : DEnv) (p : Addr) : Prop := ∀ (i : Nat) (di : D), env[i]? = some (some (.bor di)) → σ[i]? ≠ some (some (.ref p))
theorem Good.chg {o o' : HO} (g : Good S G F σ H env) (hp : G p = some o) (hf : F p = none) (hb : NoBor σ env p) : Good S (delH G p) F σ (upd H p o') env := by
  have ns : S.sa ≠ p := fun z => by rw [← z, g.ns] at hp; cases hp
  have nc : S.ca ≠ p := fun z => by rw [← z, g.nc] at hp; cases hp
  refine ⟨fun a u e => ?_, fun a u e => ?_, ⟨g.st.1, ?_⟩, ?_, ?_, g.len, fun i sl e => ?_, g.dist⟩
  · unfold delH at e
    split at e
    · cases e
    · rename_i na; rw [upd_ne na]; exact g.kp a u e
  · have na : a ≠ p := fun z => by rw [z, hf] at e; cases e
    unfold delH
    rw [if_neg na]; exact g.fg a u e
  · obtain ⟨_, n, cs, h1, h2, h3⟩ := g.st
    exact ⟨n, cs, by rw [upd_ne ns]; exact h1, by rw [upd_ne nc]; exact h2, h3⟩
  · unfold delH; rw [if_neg ns]; exact g.ns
  · unfold delH; rw [if_neg nc]; exact g.nc
  · have q := g.slot i sl e
    cases sl with
    | val d => exact q
    | bor d =>
      obtain ⟨u, h1, h2⟩ := q
      refine ⟨u, h1, ?_⟩
      rcases h2 with h2 | ⟨a, ea, h2⟩
      · exact .inl h2
      · subst ea
        have na : a ≠ p := fun z => hb i d e (by rw [h1, z])
        exact .inr ⟨a, rfl, ownR_mono (Sub.refl _) (fun o z => by unfold delH; rw [if_neg na]; exact z) h2⟩
    | own d =>
      obtain ⟨a, h1, h2, h3, h4, h5⟩ := q
      have na : a ≠ p := fun z => by rw [z, hp] at h2; cases h2
      refine ⟨a, h1, ?_, h3, h4, ownR_mono (Sub.refl _) (fun o z => by rw [upd_ne na]; exact z) h5⟩
      unfold delH; rw [if_neg na]; exact h2

/-! ### comprehensions -/
def QTs (S : SA) (X : Cx) (ifs : List Expr) (m : DT) : Prop := PTs X ifs (TT_ S m)
theorem pts_weak {ifs : List Expr} {t t' : TT} (h : PTs X ifs t) (w : ∀ σ H Q, t' σ H Q → t σ H Q) : PTs X ifs t' := ⟨fun pins s σ H Q I q => h.run pins s σ H Q I (w σ H Q q)⟩
def mYes : DT := fun _ => .ret true
theorem qts_nil : QTs S X [] mYes := pts_weak pts_nil fun σ H Q ⟨G, F, env, g, q⟩ => q G F H (Ext.refl _ _) g
theorem qts_one (h : QT S X c t) : QTs S X [c] t := pts_one h
def mLcL (gg : DG) (mt : DT) (me : DE) (envw : DEnv) : List D → List D → M (List D)
  | [], acc => .ret acc
  | d :: ds, acc => gg d envw >>= fun env1 => mt env1 >>= fun k => if k then me env1 >>= fun y => mLcL gg mt me envw ds (acc ++ [y]) else mLcL gg mt me envw ds acc
def mLc (vs : List Nat) (mi : DI) (gg : DG) (mt : DT) (me : DE) : DE := fun env => if vs.all (notOwn env) then mi env >>= fun ds => mLcL gg mt me (wipeE env vs) ds [] >>= fun ys => .ret (.lst ys) else .fail
/-- what is known of the list that grows at p -/
structure Grow (S : SA) (G1 F1 : Hp) (σ : L2.St) (env : DEnv) (p : Addr) (H : Hp) (acc : List D) (n : Nat) (G2 F2 : Hp) : Prop where
  x : Ext G1 F1 G2 F2
  g : Good S G2 F2 σ H env
  no : G2 p = none
  ows : ∀ (i : Nat) (di : D), env[i]? = some (some (.own di)) → σ[i]? ≠ some (some (.ref p))
  at_ : ∃ vs, H p = some (.lst vs) ∧ RpL S F2 acc vs ∧ vs.length ≤ n
  bos : NoBor σ env p
theorem Good.borNe (g : Good S G F σ H env) (hp : H p = none) : NoBor σ env p := fun i di e z => by
  obtain ⟨u, h1, h2⟩ := g.slot i _ e
  rw [z] at h1
  cases h1
  have hg := g.no hp
  have hf := g.fg.no hg
  rcases h2 with h2 | ⟨a, ea, h2⟩
  · cases h2 with
    | stt => obtain ⟨_, n, cs, q1, _⟩ := g.st; rw [q1] at hp; cases hp
    | tup h _ _ => rw [hf] at h; cases h
    | lst h _ _ => rw [hf] at h; cases h
    | dctK h _ _ => rw [hf] at h; cases h
    | dctT h _ _ => rw [hf] at h; cases h
  · cases ea
    obtain ⟨o, ho⟩ := ownR_some h2
    rw [hg] at ho; cases ho
theorem NoBor.wiped (h : NoBor σ env p) (vs : List Nat) : NoBor (wipe σ vs) (wipeE env vs) p := fun i di e z => by
  have hi : i ∉ vs := fun hm => wipeE_in hm e
  rw [wipeE_out hi] at e
  rw [wipe_out hi] at z
  exact h i di e z
theorem Grow.start {G1 F1 H1 : Hp} (g : Good S G1 F1 σ H1 env) (hp : H1 p = none) : Grow S G1 F1 σ env p (upd H1 p (.lst [])) [] 0 G1 F1 :=
  ⟨Ext.refl _ _, g.new hp _, g.no hp, g.ownNe hp, ⟨[], upd_same, .nil, Nat.le_refl _⟩, g.borNe hp⟩
/-- the block's state at a turn: the list is kept -/
theorem Grow.blk {G1 F1 : Hp} {acc : List D} {n : Nat} {G2 F2 : Hp} (w : Grow S G1 F1 σ env p H acc n G2 F2) (vs : List Nat) (n1 : p ≠ S.sa) (n2 : p ≠ S.ca) : ∃ o, H p = some o ∧ Ext G2 F2 (upd G2 p o) F2 ∧ Good S (upd G2 p o) F2 (wipe σ vs) H (wipeE env vs) := by
  obtain ⟨us, h1, _⟩ := w.at_
  refine ⟨_, h1, ⟨sub_upd w.no, Sub.refl _, fun a h _ => h⟩, ?_⟩
  have g := w.g.wiped vs
  refine ⟨fun a u e => ?_, w.g.fg.trans (sub_upd w.no), g.st, ?_, ?_, g.len, fun i sl e => ?_, g.dist⟩
  · by_cases z : a = p
    · subst z; rw [upd_same] at e; cases e; exact h1
    · rw [upd_ne z] at e; exact g.kp a u e
  · rw [upd_ne n1.symm]; exact g.ns
  · rw [upd_ne n2.symm]; exact g.nc
  · have q := g.slot i sl e
    cases sl with
    | val d => exact q
    | bor d => obtain ⟨u, q1, q2⟩ := q; exact ⟨u, q1, q2.mono (sub_upd w.no) (Sub.refl _)⟩
    | own d =>
      obtain ⟨a, q1, q2, q3⟩ := q
      have hi : i ∉ vs := fun hm => wipeE_in hm e
      have na : a ≠ p := fun z => by
        rw [wipeE_out hi] at e
        rw [wipe_out hi] at q1
        exact w.ows i d e (by rw [q1, z])
      exact ⟨a, q1, by rw [upd_ne na]; exact q2, q3⟩
/-- behind a turn: the list stands (k: a new item) -/
theorem Grow.next {G1 F1 : Hp} {acc : List D} {n : Nat} {G2 F2 G3 F3 H3 : Hp} {σ3 : L2.St} {env3 : DEnv} {o : HO} {vs : List Nat} (w : Grow S G1 F1 σ env p H acc n G2 F2) (ho : H p = some o) (ok : vs.all (notOwn env) = true)
    (x : Ext (upd G2 p o) F2 G3 F3) (on : Only vs (wipe σ vs) (wipeE env vs) σ3 env3) (g3 : Good S G3 F3 σ3 H3 env3) {y : D} {u : V} (r : Rp S F3 y u) :
    ∃ us, H3 p = some (.lst us) ∧ us.length ≤ n ∧ Grow S G1 F1 σ env p (upd H3 p (.lst (us ++ [u]))) (acc ++ [y]) (n + 1) (delH G3 p) F3 := by
  obtain ⟨us, h1, h2, h3⟩ := w.at_
  rw [h1] at ho
  cases ho
  have k3 : G3 p = some (.lst us) := x.g _ _ upd_same
  have f2 : F2 p = none := w.g.fg.no w.no
  have f3 : F3 p = none := x.n p f2 (by rw [upd_same]; simp)
  have gb := w.g.back ok on x.f g3
  refine ⟨us, g3.kp _ _ k3, h3, ⟨w.x.trans ⟨fun a u' e => ?_, x.f, fun a e1 e2 => ?_⟩, gb.chg k3 f3 w.bos, ?_, w.ows, ⟨us ++ [u], upd_same, (h2.mono x.f).append (.cons r .nil), ?_⟩, w.bos⟩⟩
  · have na : a ≠ p := fun z => by rw [z, w.no] at e; cases e
    unfold delH
    rw [if_neg na]
    exact x.g a u' (by rw [upd_ne na]; exact e)
  · exact x.n a e1 (by
      have na : a ≠ p := fun z => e2 (by rw [z]; exact w.no)
      rw [upd_ne na]; exact e2)
  · unfold delH; rw [if_pos rfl]
  · rw [List.length_append, List.length_singleton]; omega
theorem Grow.skip {G1 F1 : Hp} {acc : List D} {n : Nat} {G2 F2 G3 F3 H3 : Hp} {σ3 : L2.St} {env3 : DEnv} {o : HO} {vs : List Nat} (w : Grow S G1 F1 σ env p H acc n G2 F2) (ho : H p = some o) (ok : vs.all (notOwn env) = true)
    (x : Ext (upd G2 p o) F2 G3 F3) (on : Only vs (wipe σ vs) (wipeE env vs) σ3 env3) (g3 : Good S G3 F3 σ3 H3 env3) : Grow S G1 F1 σ env p H3 acc (n + 1) (delH G3 p) F3 := by
  obtain ⟨us, h1, h2, h3⟩ := w.at_
  rw [h1] at ho
  cases ho
  have k3 : G3 p = some (.lst us) := x.g _ _ upd_same
  have f2 : F2 p = none := w.g.fg.no w.no
  have f3 : F3 p = none := x.n p f2 (by rw [upd_same]; simp)
  have gb := (w.g.back ok on x.f g3).chg (o' := .lst us) k3 f3 w.bos
  have eH : upd H3 p (.lst us) = H3 := by
    funext a
    by_cases z : a = p
    · subst z; rw [upd_same]; exact (g3.kp _ _ k3).symm
    · rw [upd_ne z]
  rw [eH] at gb
  refine ⟨w.x.trans ⟨fun a u' e => ?_, x.f, fun a e1 e2 => ?_⟩, gb, ?_, w.ows, ⟨us, g3.kp _ _ k3, h2.mono x.f, by omega⟩, w.bos⟩
  · have na : a ≠ p := fun z => by rw [z, w.no] at e; cases e
    unfold delH
    rw [if_neg na]
    exact x.g a u' (by rw [upd_ne na]; exact e)
  · exact x.n a e1 (by
      have na : a ≠ p := fun z => e2 (by rw [z]; exact w.no)
      rw [upd_ne na]; exact e2)
  · unfold delH; rw [if_pos rfl]
theorem lc_read {vs : List Nat} {mi : DI} {gg : DG} {mt : DT} {me : DE} (g : Good S G F σ H env) (q : (mLc vs mi gg mt me env).wp (PostF S G F σ env Q)) : tLc (TIx (imComp vs) S mi) (TG_ S vs gg) (TT_ S mt) (TE_ S me) vs σ H Q := by
  unfold mLc at q
  split at q
  · rename_i ok
    refine ⟨G, F, env, g, ok, M.wp_mono (M.wpb q) fun ds q J G1 F1 H1 e1 g1 its hz => ?_⟩
    intro p hp
    have nst := g1.stNe hp
    refine ⟨fun i m H => m = ds.length - i ∧ i ≤ ds.length ∧ ∃ G2 F2 acc, Grow S G1 F1 σ env p H acc i G2 F2 ∧ (mLcL gg mt me (wipeE env vs) (ds.drop i) acc).wp (fun ys => PostF S G F σ env Q (.lst ys)),
      ⟨ds.length, by simp, Nat.zero_le _, G1, F1, [], Grow.start g1 hp, by rw [List.drop_zero]; exact M.wpb q⟩, ?_⟩
    rintro i m H ⟨rfl, hi, G2, F2, acc, w, q⟩
    have comp : (imComp vs).P F1 σ env F2 σ env := ⟨w.x.f, fun _ _ => ⟨rfl, rfl⟩⟩
    by_cases hlt : i < ds.length
    · obtain ⟨o, ho, xb, gb⟩ := w.blk vs nst.1 nst.2
      have compW : (imComp vs).P F1 σ env F2 (wipe σ vs) (wipeE env vs) := ⟨w.x.f, fun j hj => ⟨wipe_out hj, wipeE_out hj⟩⟩
      refine .inr ⟨its.go i _ _ _ H _ compW gb hlt, fun H => ∃ G2 F2 acc, Grow S G1 F1 σ env p H acc (i + 1) G2 F2 ∧ (mLcL gg mt me (wipeE env vs) (ds.drop (i + 1)) acc).wp (fun ys => PostF S G F σ env Q (.lst ys)),
        fun H' h => ⟨ds.length - (i + 1), by omega, rfl, hlt, h⟩, fun x H' y => ?_⟩
      obtain ⟨G3, F3, e3, g3, r3⟩ := its.yld i _ _ _ H _ x H' ds[i] compW gb (by simp [hlt]) y
      rw [List.drop_eq_getElem_cons hlt] at q
      refine ⟨G3, F3, wipeE env vs, ds[i], g3, r3, M.wp_mono (M.wpb q) fun env3 q σ3 o3 g3' => ⟨?_, G3, F3, env3, g3', M.wp_mono (M.wpb q) fun k q G4 F4 H4 e4 g4 => ?_⟩⟩
      · rw [o3.1, wipe_idem]
      · cases k with
        | true =>
          rw [if_pos rfl] at q ⊢
          refine ⟨G4, F4, env3, g4, M.wp_mono (M.wpb q) fun yd q u G5 F5 H5 e5 g5 r5 => ?_⟩
          obtain ⟨us, hus, hul, w'⟩ := w.next ho ok (e3.trans (e4.trans e5)) o3 g5 r5
          exact ⟨us, hus, by omega, delH G5 p, F5, _, w', q⟩
        | false =>
          rw [if_neg (by decide)] at q ⊢
          exact ⟨delH G4 p, F4, acc, w.skip ho ok (e3.trans e4) o3 g4, q⟩
    · have e : i = ds.length := by omega
      subst e
      rw [List.drop_length] at q
      obtain ⟨us, h1, h2, h3⟩ := w.at_
      refine .inl ⟨its.stop _ G2 F2 σ H env comp w.g (Nat.le_refl _), ?_⟩
      have q' : PostF S G F σ env Q (.lst acc) := q
      exact q' p G2 F2 H (e1.trans w.x) w.g ⟨w.no, nst.1, nst.2, w.ows, us, h1, h2, by omega⟩
  · exact q.elim
theorem qlc (own : List (Str × Nat)) {tg iter : Expr} {ifs : List Expr} {scope : Scope} {mi : DI} {gg : DG} {mt : DT} {me : DE} (hN : X.N.Nodup) (hi : QI (imComp (own.map (·.2))) S X tg iter mi) (ok : BlkOk X.N X.env.scope scope own)
    (hg : ∀ (s : Shared) (H : Hp) (C : Addr) (cl : List (Str × Addr)) (fp : List Addr), QG S (own.map (·.2)) (X.blk s H scope (compEnvC scope cl C X.env) fp) tg gg) (ht : ∀ (s : Shared) (H : Hp) (C : Addr) (cl : List (Str × Addr)) (fp : List Addr), QTs S (X.blk s H scope (compEnvC scope cl C X.env) fp) ifs mt)
    (he : ∀ (s : Shared) (H : Hp) (C : Addr) (cl : List (Str × Addr)) (fp : List Addr), QE S (X.blk s H scope (compEnvC scope cl C X.env) fp) e me) (hc : X.calm = true := by rfl) (hs : ∀ x, foldedSetIterable iter X.env x = pure x := by intro _; rfl) :
    QF S X (.ListComp e [⟨tg, iter, ifs, 0⟩] scope pos) (mLc (own.map (·.2)) mi gg mt me) :=
  pe_weak (pe_lc hc hN hi ok hg ht he hs) fun σ H Q ⟨G, F, env, g, q⟩ => lc_read g q
/-- y = [..], y a local name -/
theorem qsetLc (i : Nat) (own : List (Str × Nat)) {y : Str} {py : Pos} {tg iter : Expr} {ifs : List Expr} {scope : Scope} {mi : DI} {gg : DG} {mt : DT} {me : DE} (hN : X.N.Nodup) (hi : QI (imComp (own.map (·.2))) S X tg iter mi) (ok : BlkOk X.N X.env.scope scope own)
    (hg : ∀ (s : Shared) (H : Hp) (C : Addr) (cl : List (Str × Addr)) (fp : List Addr), QG S (own.map (·.2)) (X.blk s H scope (compEnvC scope cl C X.env) fp) tg gg) (ht : ∀ (s : Shared) (H : Hp) (C : Addr) (cl : List (Str × Addr)) (fp : List Addr), QTs S (X.blk s H scope (compEnvC scope cl C X.env) fp) ifs mt)
    (he : ∀ (s : Shared) (H : Hp) (C : Addr) (cl : List (Str × Addr)) (fp : List Addr), QE S (X.blk s H scope (compEnvC scope cl C X.env) fp) e me)
    (hsw : swapsWith (.ListComp e [⟨tg, iter, ifs, 0⟩] scope pos) (some (.Name y py)) pp.line X.env = pure true)
    (hy : X.N[i]? = some y := by rfl) (hyl : X.env.scope.names.lookup y = some .local := by rfl) (hc : X.calm = true := by rfl) (hs : ∀ x, foldedSetIterable iter X.env x = pure x := by intro _; rfl) :
    QS S X (.Assign [.Name y py] (.ListComp e [⟨tg, iter, ifs, 0⟩] scope pos) pp) (mSetO i (mLc (own.map (·.2)) mi gg mt me)) :=
  ps_weak (ps_setLc hc hN hy hyl hsw hi ok hg ht he hs) fun D' σ H ⟨G, F, env, g, q⟩ => by
    show tLc _ _ _ _ _ σ H fun x H1 => gName i x σ H1 D'.nx
    refine lc_read g (M.wp_mono (M.wpb q) fun d q p G1 F1 H1 e1 g1 f1 => ?_)
    exact q _ G1 F1 H1 e1 (g1.setOwn f1)

/-! ### a list's methods -/
def mMeth (op : List D → List D → M D) (m : DE) (ms : DA) : DE := fun env => m env >>= fun x => match x with
  | .lst xs => ms env >>= fun ds => op xs ds
  | _ => .fail
def MtD (S : SA) (X : Cx) (id : String) (op : List D → List D → M D) : Prop := ∃ r : V → List V → Hp → VK → Prop, MtR X id r ∧ ∀ (G F : Hp) (σ : L2.St) (H : Hp) (env : DEnv) (v : V) (vs : List V) (xs ds : List D) (Q : VK),
  Good S G F σ H env → RdB S F σ env (.lst xs) v → RdBL S F σ env ds vs → (op xs ds).wp (Post S G F σ env Q) → r v vs H Q
theorem qmeth {name : Str} {id : String} {op : List D → List D → M D} {o : Expr} {apos cpos : Pos} (pa : PlainAttrs "list") (slot : Slot "list" name id) (hty : typeOf (.builtin id) = pure (.type "method_descriptor")) (hm : MtD S X id op) (ho : QB S X o m) (ha : QAB S X (e :: es) ms)
    (hbase : attributeBase o name X.env (eval o X.env) = eval o X.env := by rfl)
    (hfew : ((backTo cpos (starEach (e :: es) X.env)).all (fun x => !x.1) && (backToKw cpos (keywordEach [] X.env)).all (fun x => x.1.isSome)
      && decide ((e :: es).length + ([] : List Keyword).length + (if ([] : List Keyword).isEmpty then 0 else 1) < 30)) = true := by rfl)
    (hline : (apos.endLine == cpos.line) = true := by rfl) (hs : starEach (e :: es) X.env = (false, eval e X.env) :: starEach es X.env := by rfl) (hplain : (backTo cpos (starEach es X.env)).any (·.1) = false := by rfl) :
    QE S X (.Call (.Attribute o name apos) (e :: es) [] cpos) (mMeth op m ms) := by
  obtain ⟨r, hr, k⟩ := hm
  exact pe_weak (pe_bm pa slot hty hr ho ha hbase hfew hline hs hplain) fun σ H Q ⟨G, F, env, g, q⟩ => ⟨G, F, env, g, M.wp_mono (M.wpb q) fun d q v G1 F1 H1 e1 g1 r1 => by
    cases d with
    | lst xs =>
      obtain ⟨p, us, rfl, h1, l1, z1⟩ := r1.lst g1
      exact ⟨.inl ⟨rfl, us, .of h1⟩, G1, F1, env, g1, M.wp_mono (M.wpb q) fun ds q vs G2 F2 H2 e2 g2 r2 => k G2 F2 σ H2 env _ vs xs ds Q g2 (r1.mono e2.f) r2 (M.wp_mono q fun _ => post_shift (e1.trans e2))⟩
    | _ => exact q.elim⟩
def idxD (xs : List D) (y : D) : Option Nat := xs.findIdx? fun z => D.beq z y
def dIndex : List D → List D → M D
  | xs, [y] => if y.pl 63 && D.plL 63 xs then (match idxD xs y with
    | some j => .ret (.int (j : Nat))
    | none => .fail) else .fail
  | _, _ => .fail
theorem pyL_get : ∀ (xs : List D) (j : Nat), (D.pyL xs)[j]? = xs[j]?.map D.py
  | [], j => by simp [D.pyL]
  | x :: xs, 0 => by simp [D.pyL]
  | x :: xs, j + 1 => by simpa [D.pyL] using pyL_get xs j
theorem plL_get : ∀ {n : Nat} {xs : List D} {j : Nat} {x : D}, D.plL n xs = true → xs[j]? = some x → x.pl n = true
  | n, y :: ys, 0, x, h, e => by simp at e; subst e; simp only [D.plL, Bool.and_eq_true] at h; exact h.1
  | n, y :: ys, j + 1, x, h, e => by simp only [D.plL, Bool.and_eq_true] at h; exact plL_get h.2 (by simpa using e)
theorem t_index (hu : X.A.units + 65 < cLine) : MtD S X "list.index" dIndex := ⟨_, mt_indexD hu, fun G F σ H env v vs xs ds Q g r rs q => by
  unfold dIndex at q
  split at q
  · split at q
    · rename_i y hc
      rw [Bool.and_eq_true] at hc
      split at q
      · rename_i j hj
        obtain ⟨u, rfl, ru⟩ := rdb1 rs
        have ⟨p, us, ev, _, _, _⟩ := r.lst g
        subst ev
        obtain ⟨p1, s1⟩ := ru.shaped (K := X.K) g (D.pl_succ _ _ hc.1)
        obtain ⟨p2, s2⟩ := r.shaped (K := X.K) g (show (D.lst _).pl 64 = true from hc.2)
        obtain ⟨hl, h1, h2⟩ := List.findIdx?_eq_some_iff_getElem.mp hj
        refine ⟨p, u, y.py, D.pyL _, j, _, rfl, rfl, by simpa only [D.py] using p2, p1, by simpa only [D.py] using s2, s1, by rw [pyL_get, List.getElem?_eq_getElem hl]; rfl, ?_, fun k z hk hz => ?_, Post.now q g (.int _)⟩
        · rw [D.eqv_beq 63 _ _ (plL_get hc.2 (List.getElem?_eq_getElem hl)) hc.1]; exact h1
        · have hkl : k < xs.length := by omega
          rw [pyL_get, List.getElem?_eq_getElem hkl] at hz
          cases hz
          rw [D.eqv_beq 63 _ _ (plL_get hc.2 (List.getElem?_eq_getElem hkl)) hc.1]
          have := h2 k hk
          simpa using this
      · exact q.elim
    · exact q.elim
  · exact q.elim⟩
theorem qindex {o : Expr} {apos cpos : Pos} (hu : X.A.units + 65 < cLine) (ho : QB S X o m) (ha : QB S X e ma) (n1 : starEach [e] X.env = (false, eval e X.env) :: starEach [] X.env := by rfl)
    (hbase : attributeBase o "index" X.env (eval o X.env) = eval o X.env := by rfl)
    (hfew : ((backTo cpos (starEach [e] X.env)).all (fun x => !x.1) && (backToKw cpos (keywordEach [] X.env)).all (fun x => x.1.isSome)
      && decide ([e].length + ([] : List Keyword).length + (if ([] : List Keyword).isEmpty then 0 else 1) < 30)) = true := by rfl)
    (hline : (apos.endLine == cpos.line) = true := by rfl) (hplain : (backTo cpos (starEach [] X.env)).any (·.1) = false := by rfl) : QE S X (.Call (.Attribute o "index" apos) [e] [] cpos) (mMeth dIndex m (aCons ma aNil)) :=
  qmeth PySem.F.plainAttrs_list PySem.F.slot_list_index PySem.F.type_list_index (t_index hu) ho (qab_cons ha qab_nil n1) hbase hfew hline n1 hplain
/-- an own list at name i is changed -/
theorem Good.ownSet {vs : List V} {ds : List D} (g : Good S G F σ H env) (e : env[i]? = some (some (.own d))) (hp : σ[i]? = some (some (.ref p))) (r : RpL S F ds vs) (z : vs.length ≤ sizeLine) : Good S G F σ (upd H p (.lst vs)) (env.set i (some (.own (.lst ds)))) := by
  obtain ⟨a, h1, h2, h3, h4, h5⟩ := g.slot i _ e
  rw [hp] at h1
  cases h1
  have hi : i < env.length := (List.getElem?_eq_some_iff.mp e).1
  refine ⟨fun b u q => ?_, g.fg, ⟨g.st.1, ?_⟩, g.ns, g.nc, by rw [List.length_set]; exact g.len, fun j sl q => ?_, fun j k dj dk b e1 e2 e3 e4 => ?_⟩
  · have nb : b ≠ p := fun z => by rw [z, h2] at q; cases q
    rw [upd_ne nb]; exact g.kp b u q
  · obtain ⟨_, n, cs, q1, q2, q3⟩ := g.st
    exact ⟨n, cs, by rw [upd_ne h3.symm]; exact q1, by rw [upd_ne h4.symm]; exact q2, q3⟩
  · by_cases hij : i = j
    · subst hij
      rw [List.getElem?_set_self hi] at q
      cases q
      exact ⟨p, hp, h2, h3, h4, vs, upd_same, r, z⟩
    · rw [List.getElem?_set_ne hij] at q
      have w := g.slot j sl q
      cases sl with
      | val d' => exact w
      | bor d' => exact w
      | own d' =>
        obtain ⟨b, w1, w2, w3, w4, w5⟩ := w
        have nb : b ≠ p := by
          rintro rfl
          exact hij (g.dist i j _ _ b e q hp w1)
        exact ⟨b, w1, w2, w3, w4, ownR_mono (Sub.refl _) (fun o z => by rw [upd_ne nb]; exact z) w5⟩
  · have fix : ∀ (l : Nat) (dl : D), (env.set i (some (.own (.lst ds))))[l]? = some (some (.own dl)) → ∃ dl', env[l]? = some (some (.own dl')) := fun l dl q => by
      by_cases hl : i = l
      · subst hl; exact ⟨d, e⟩
      · rw [List.getElem?_set_ne hl] at q; exact ⟨dl, q⟩
    obtain ⟨_, f1⟩ := fix j dj e1
    obtain ⟨_, f2⟩ := fix k dk e2
    exact g.dist j k _ _ b f1 f2 e3 e4
def mAppend (i : Nat) (m : DE) : DS := fun env => m env >>= fun d => match env[i]? with
  | some (some (.own (.lst xs))) => if xs.length < sizeLine then .ret (.nx, env.set i (some (.own (.lst (xs ++ [d]))))) else .fail
  | _ => .fail
theorem qappend (i : Nat) {x : Str} {np apos cpos epos : Pos} (ha : QE S X e m) (hN : X.N[i]? = some x := by rfl) (hv : Vis X.env.scope x := by first | exact Or.inl rfl | exact Or.inr (Or.inl rfl) | exact Or.inr (Or.inr rfl)) (hd : (x == ("__debug__" : Str)) = false := by decide)
    (hcd : (x == ("__classdict__" : Str)) = false := by decide) (n1 : starEach [e] X.env = (false, eval e X.env) :: starEach [] X.env := by rfl)
    (hbase : attributeBase (.Name x np) "append" X.env (eval (.Name x np) X.env) = eval (.Name x np) X.env := by rfl)
    (hfew : ((backTo cpos (starEach [e] X.env)).all (fun x => !x.1) && (backToKw cpos (keywordEach [] X.env)).all (fun x => x.1.isSome)
      && decide ([e].length + ([] : List Keyword).length + (if ([] : List Keyword).isEmpty then 0 else 1) < 30)) = true := by rfl)
    (hline : (apos.endLine == cpos.line) = true := by rfl) (hplain : (backTo cpos (starEach [] X.env)).any (·.1) = false := by rfl) (hs : swapsWith (.Call (.Attribute (.Name x np) "append" apos) [e] [] cpos) none epos.line X.env = pure false := by rfl) :
    QS S X (.Expr (.Call (.Attribute (.Name x np) "append" apos) [e] [] cpos) epos) (mAppend i m) :=
  ps_weak (ps_expr (pe_bm PySem.F.plainAttrs_list PySem.F.slot_list_append PySem.F.type_list_append mt_append (pe_var hN hv hd hcd) (qa_cons ha qa_nil n1) hbase hfew hline n1 hplain) hs) fun D' σ H ⟨G, F, env, g, q⟩ => by
    -- what stands at the name ahead of the argument
    have own : ∃ a, σ[i]? = some (some (.ref a)) ∧ ∃ xs vs, env[i]? = some (some (.own (.lst xs))) ∧ H a = some (.lst vs) := by
      have q' := M.wpb q
      have nf : ∃ xs, env[i]? = some (some (.own (.lst xs))) := by
        have step : ∀ {mm : M D} {f : D → M (Fl × DEnv)} {P : Fl × DEnv → Prop}, (mm.wp fun a => (f a).wp P) → (∀ a, (f a).wp P → ∃ xs, env[i]? = some (some (.own (.lst xs)))) → ∃ xs, env[i]? = some (some (.own (.lst xs))) := by
          intro mm f P h1 h2
          induction mm with
          | ret a => exact h2 a h1
          | fail => exact h1.elim
          | ask k g ih => exact ih 0 (h1.2 0 (Int.le_refl _) h1.1.1)
        refine step q' fun a h => ?_
        split at h
        · rename_i xs e; exact ⟨xs, e⟩
        · exact h.elim
      obtain ⟨xs, e⟩ := nf
      obtain ⟨a, h1, _, _, _, vs, h2, _⟩ := g.slot i _ e
      exact ⟨a, h1, xs, vs, e, h2⟩
    obtain ⟨a, ha', xs, vs, e, hv'⟩ := own
    refine ⟨.ref a, ha', .inl ⟨rfl, vs, .of hv'⟩, G, F, env, g, ?_⟩
    have q' := M.wpb q
    rw [e] at q'
    refine (M.wp_bind (g := fun ds => M.ret ds)).mp ?_
    show M.wp (M.bind (M.bind (m env) fun x => M.bind (M.ret []) fun xs => M.ret (x :: xs)) M.ret) _
    rw [M.wp_bind, M.wp_bind]
    refine M.wp_mono q' fun d q us G1 F1 H1 e1 g1 r1 => ?_
    simp only at q
    split at q
    · cases r1 with
      | cons r t =>
        cases t
        obtain ⟨b, b1, b2, b3, b4, ws, b5, b6, b7⟩ := g1.slot i _ e
        rw [ha'] at b1
        cases b1
        have n := b6.len
        exact ⟨a, ws, _, rfl, rfl, b5, by omega, q _ G1 F1 _ e1 (g1.ownSet e ha' (b6.append (.cons r .nil)) (by rw [List.length_append, List.length_singleton]; omega))⟩
    · exact q.elim
end
end DL

set_option Elab.async false
set_option linter.all false
set_option maxRecDepth 100000
/-! DL8: a def's promise by trees; calls; the law's own state. -/
namespace DL
open PySem PySem.Spec L2
open PyProof.Rows hiding St

/-- an argument: a value that stands still, or (b) one that is only looked at -/
def ArgR (S : SA) (F H : Hp) (b : Bool) (d : D) (v : V) : Prop := Rp S F d v ∨ (b = true ∧ ∃ a, v = .ref a ∧ a ≠ S.sa ∧ a ≠ S.ca ∧ OwnR S F H a d)
inductive ArgsR (S : SA) (F H : Hp) : List Bool → List D → List V → Prop
  | nil : ArgsR S F H [] [] []
  | cons {b : Bool} {bs : List Bool} {d : D} {ds : List D} {v : V} {vs : List V} : ArgR S F H b d v → ArgsR S F H bs ds vs → ArgsR S F H (b :: bs) (d :: ds) (v :: vs)
theorem ArgsR.len {S : SA} {F H : Hp} : ∀ {bs : List Bool} {ds : List D} {vs : List V}, ArgsR S F H bs ds vs → ds.length = bs.length ∧ vs.length = bs.length
  | _, _, _, .nil => ⟨rfl, rfl⟩
  | _, _, _, .cons _ t => ⟨congrArg (· + 1) t.len.1, congrArg (· + 1) t.len.2⟩
theorem ArgsR.get {S : SA} {F H : Hp} : ∀ {bs : List Bool} {ds : List D} {vs : List V} {i : Nat} {d : D}, ArgsR S F H bs ds vs → ds[i]? = some d → ∃ b v, bs[i]? = some b ∧ vs[i]? = some v ∧ ArgR S F H b d v
  | _, _, _, _, _, .nil, e => by simp at e
  | _, _, _, 0, _, .cons r _, e => by simp at e; subst e; exact ⟨_, _, rfl, rfl, r⟩
  | _, _, _, i + 1, d, .cons _ t, e => by
    obtain ⟨b, u, h0, h1, h2⟩ := ArgsR.get (i := i) (d := d) t (by simpa using e)
    exact ⟨b, u, by simpa using h0, by simpa using h1, h2⟩
theorem ArgsR.mono {S : SA} {F F' H H' : Hp} (s : Sub F F') (k : ∀ a o, a ≠ S.sa → a ≠ S.ca → H a = some o → H' a = some o) : ∀ {bs : List Bool} {ds : List D} {vs : List V}, ArgsR S F H bs ds vs → ArgsR S F' H' bs ds vs
  | _, _, _, .nil => .nil
  | _, _, _, .cons r t => .cons (by
      rcases r with r | ⟨hb, a, e, n1, n2, r⟩
      · exact .inl (r.mono s)
      · exact .inr ⟨hb, a, e, n1, n2, ownR_mono s (fun o z => k a o n1 n2 z) r⟩) (t.mono s k)
/-- a def promises what its mirror m tells; bs: which arguments are only looked at -/
def spD (S : SA) (bs : List Bool) (m : List D → M D) : Sp := fun vs H Q _ => ∃ F ds, Sub F H ∧ F S.sa = none ∧ F S.ca = none ∧ StOk S H ∧ ArgsR S F H bs ds vs ∧
  (m ds).wp fun d => ∀ v F' H', Sub F F' → Sub F' H' → (∀ a, F a = none → F' a ≠ none → H a = none) → (∀ a o, a ≠ S.sa → a ≠ S.ca → H a = some o → H' a = some o) → StOk S H' → Rp S F' d v → Q v H'
def slots : List Bool → List D → DEnv
  | b :: bs, d :: ds => some (if b then .bor d else .val d) :: slots bs ds
  | _, _ => []
def envOf (N : Nat) (bs : List Bool) (ds : List D) : DEnv := slots bs ds ++ List.replicate (N - ds.length) none
/-- a body's mirror as a def's -/
def fnM (N : Nat) (bs : List Bool) (mb : DS) (ds : List D) : M D := mb (envOf N bs ds) >>= fun r => match r.1 with
  | .rt d => .ret d
  | .nx => .ret .non
  | _ => .fail
section
variable {S : SA} {X : Cx} {G F G' F' H H' : Hp} {σ : L2.St} {env : DEnv} {d : D} {v : V} {p : Addr} {Q : VK} {m ma mb mc : DE} {t ta tb : DT} {ms : DA} {a b c e : Expr} {es rest : List Expr} {pos pp : Pos} {x : Str} {i : Nat}
theorem RdB.arg (g : Good S G F σ H env) (h : RdB S F σ env d v) : ArgR S F H true d v := by
  rcases h with h | ⟨i, h1 | h1, h2⟩
  · exact .inl h
  · obtain ⟨a, h3, _, n1, n2, h4⟩ := g.slot i _ h1
    rw [h2] at h3
    cases h3
    exact .inr ⟨rfl, _, rfl, n1, n2, h4⟩
  · obtain ⟨u, h3, h4⟩ := g.slot i _ h1
    rw [h2] at h3
    cases h3
    rcases h4 with h4 | ⟨a, e, h4⟩
    · exact .inl h4
    · obtain ⟨o, ho⟩ := ownR_some h4
      refine .inr ⟨rfl, a, e, fun z => ?_, fun z => ?_, ownR_mono (Sub.refl _) (fun o z => g.kp _ _ z) h4⟩
      · rw [z, g.ns] at ho; cases ho
      · rw [z, g.nc] at ho; cases ho
theorem Good.call {vs : List V} {bs : List Bool} {ds : List D} {mf : List D → M D} {E : XK} (g : Good S G F σ H env) (r : ArgsR S F H bs ds vs) (q : (mf ds).wp (Post S G F σ env Q)) : spD S bs mf vs H Q E := by
  refine ⟨F, ds, g.fh, g.fsa, g.fca, g.st, r, M.wp_mono q fun d q v F' H' s1 s2 nw kp st rv => ?_⟩
  have fz : ∀ a, G a = none → H a ≠ none → F' a = none := fun a h1 h2 => by
    cases q' : F' a with
    | none => rfl
    | some o => exact absurd (nw a (g.fg.no h1) (by rw [q']; simp)) h2
  have fsa : F' S.sa = none := fz _ g.ns (by obtain ⟨_, n, cs, q1, _⟩ := g.st; rw [q1]; simp)
  have fca : F' S.ca = none := fz _ g.nc (by obtain ⟨_, n, cs, _, q1, _⟩ := g.st; rw [q1]; simp)
  have nsa : ∀ a o, G a = some o → a ≠ S.sa ∧ a ≠ S.ca := fun a o e => ⟨fun z => (by rw [z, g.ns] at e; cases e), fun z => (by rw [z, g.nc] at e; cases e)⟩
  refine q v (fun a => match G a with | some o => some o | none => F' a) F' H' ⟨fun a o e => ?_, s1, fun a h1 h2 => ?_⟩ ⟨fun a o e => ?_, fun a o e => ?_, st, ?_, ?_, g.len, fun i sl e => ?_, g.dist⟩ rv
  · show (match G a with | some o => some o | none => F' a) = some o
    rw [e]
  · cases q' : F' a with
    | none => rfl
    | some o =>
      have hn := nw a h1 (by rw [q']; simp)
      exact absurd (g.no hn) h2
  · have e' : (match G a with | some o => some o | none => F' a) = some o := e
    cases q' : G a with
    | none => rw [q'] at e'; exact s2 a o e'
    | some u =>
      rw [q'] at e'
      cases e'
      exact kp a _ (nsa a _ q').1 (nsa a _ q').2 (g.kp a _ q')
  · show (match G a with | some o => some o | none => F' a) = some o
    cases q' : G a with
    | none => exact e
    | some u =>
      cases q2 : F a with
      | none =>
        have hn := nw a q2 (by rw [e]; simp)
        rw [g.kp a _ q'] at hn; cases hn
      | some w =>
        have e3 := s1 a w q2
        rw [e] at e3
        have e4 := g.fg a w q2
        rw [q'] at e4
        rw [e3] at *
        exact e4
  · show (match G S.sa with | some o => some o | none => F' S.sa) = none
    rw [g.ns]; exact fsa
  · show (match G S.ca with | some o => some o | none => F' S.ca) = none
    rw [g.nc]; exact fca
  · have w := g.slot i sl e
    cases sl with
    | val d' => obtain ⟨u, h1, h2⟩ := w; exact ⟨u, h1, h2.mono s1⟩
    | bor d' =>
      obtain ⟨u, h1, h2⟩ := w
      refine ⟨u, h1, h2.mono (fun a o e => ?_) s1⟩
      show (match G a with | some o => some o | none => F' a) = some o
      rw [e]
    | own d' =>
      obtain ⟨a, h1, h2, h3, h4, h5⟩ := w
      obtain ⟨o, ho⟩ := ownR_some h5
      refine ⟨a, h1, ?_, h3, h4, ownR_mono s1 (fun o z => kp a o h3 h4 z) h5⟩
      show (match G a with | some o => some o | none => F' a) = none
      rw [h2]; exact fz a h2 (by rw [ho]; simp)
/-! arguments, each by its kind -/
def PostM (S : SA) (G F : Hp) (σ : L2.St) (env : DEnv) (bs : List Bool) (Q : List V → Hp → Prop) (ds : List D) : Prop := ∀ vs G' F' H', Ext G F G' F' → Good S G' F' σ H' env → ArgsR S F' H' bs ds vs → Q vs H'
/-- an argument as it is to be taken on: by its name, or as a value -/
def RdM (S : SA) (F : Hp) (σ : L2.St) (env : DEnv) (b : Bool) (d : D) (v : V) : Prop := if b then RdB S F σ env d v else Rp S F d v
inductive RdMs (S : SA) (F : Hp) (σ : L2.St) (env : DEnv) : List Bool → List D → List V → Prop
  | nil : RdMs S F σ env [] [] []
  | cons {b : Bool} {bs : List Bool} {d : D} {ds : List D} {v : V} {vs : List V} : RdM S F σ env b d v → RdMs S F σ env bs ds vs → RdMs S F σ env (b :: bs) (d :: ds) (v :: vs)
def PostMs (S : SA) (G F : Hp) (σ : L2.St) (env : DEnv) (bs : List Bool) (Q : List V → Hp → Prop) (ds : List D) : Prop := ∀ vs G' F' H', Ext G F G' F' → Good S G' F' σ H' env → RdMs S F' σ env bs ds vs → Q vs H'
def TAM_ (S : SA) (bs : List Bool) (m : DA) : TA := fun σ H Q => ∃ G F env, Good S G F σ H env ∧ (m env).wp (PostMs S G F σ env bs Q)
def QAM (S : SA) (X : Cx) (bs : List Bool) (es : List Expr) (m : DA) : Prop := PA X es (TAM_ S bs m)
theorem qam_nil : QAM S X [] [] aNil := pa_weak pa_nil fun σ H Q ⟨G, F, env, g, q⟩ => q [] G F H (Ext.refl _ _) g .nil
theorem qam_v {bs : List Bool} (ha : QE S X e m) (hr : QAM S X bs es ms) (hs : starEach (e :: es) X.env = (false, eval e X.env) :: starEach es X.env := by rfl) : QAM S X (false :: bs) (e :: es) (aCons m ms) :=
  pa_weak (pa_cons ha hr hs) fun σ H Q ⟨G, F, env, g, q⟩ => ⟨G, F, env, g, M.wp_mono (M.wpb q) fun d q v G1 F1 H1 e1 g1 r1 => ⟨G1, F1, env, g1, M.wp_mono (M.wpb q) fun ds q vs G2 F2 H2 e2 g2 r2 =>
    q _ G2 F2 H2 (e1.trans e2) g2 (.cons (show RdM S F2 σ env false d v from r1.mono e2.f) r2)⟩⟩
theorem qam_b {bs : List Bool} (ha : QB S X e m) (hr : QAM S X bs es ms) (hs : starEach (e :: es) X.env = (false, eval e X.env) :: starEach es X.env := by rfl) : QAM S X (true :: bs) (e :: es) (aCons m ms) :=
  pa_weak (pa_cons ha hr hs) fun σ H Q ⟨G, F, env, g, q⟩ => ⟨G, F, env, g, M.wp_mono (M.wpb q) fun d q v G1 F1 H1 e1 g1 r1 => ⟨G1, F1, env, g1, M.wp_mono (M.wpb q) fun ds q vs G2 F2 H2 e2 g2 r2 =>
    q _ G2 F2 H2 (e1.trans e2) g2 (.cons (show RdM S F2 σ env true d v from r1.mono e2.f) r2)⟩⟩
theorem RdMs.args (g : Good S G F σ H env) : ∀ {bs : List Bool} {ds : List D} {vs : List V}, RdMs S F σ env bs ds vs → ArgsR S F H bs ds vs
  | _, _, _, .nil => .nil
  | true :: _, _, _, .cons r t => .cons (RdB.arg g r) (RdMs.args g t)
  | false :: _, _, _, .cons r t => .cons (.inl r) (RdMs.args g t)
/-- a call of a def of the text -/
theorem qcall {k : Nat} {f : Addr} {fd : FuncData} {ps : List Str} {mf : List D → M D} {pos : Pos} {bs : List Bool} (FO : FnOk X.prog X.w X.K X.mg X.base CX0 k f fd ps (spD S bs mf)) (hr : Room k X.A) (hg : Gl X x) (hm : X.mg x = some (.ref f)) (hk : PySem.W.keepIn X.K (.ref f) = true) (hb : Binds X.K fd ps []) (ha : QAM S X bs (e :: es) ms)
    (hdb : (x == ("__debug__" : Str)) = false := by decide) (he : starEach (e :: es) X.env = (false, eval e X.env) :: starEach es X.env := by rfl) (hpl : (backTo pos (starEach es X.env)).any (·.1) = false := by rfl) :
    QE S X (.Call (.Name x pp) (e :: es) [] pos) (mCall mf ms) :=
  pe_weak (pe_call FO hr hg hm hk hb .nil pass0 ha hdb he hpl) fun σ H Q ⟨G, F, env, g, q⟩ => ⟨G, F, env, g, M.wp_mono (M.wpb q) fun ds q vs G1 F1 H1 e1 g1 r1 => by
    show spD S bs mf (vs ++ []) H1 Q E0
    rw [List.append_nil]
    exact g1.call (r1.args g1) (M.wp_mono q fun _ => post_shift e1)⟩
end
theorem start_get {N : List Str} {vs : List V} {j : Nat} {v : V} (h : vs[j]? = some v) : (L2.start N vs)[j]? = some (some v) := by
  unfold L2.start
  have hj : j < vs.length := (List.getElem?_eq_some_iff.mp h).1
  rw [List.getElem?_append_left (by rw [List.length_map]; exact hj), List.getElem?_map, h]; rfl
theorem slots_len : ∀ {bs : List Bool} {ds : List D}, ds.length = bs.length → (slots bs ds).length = ds.length
  | [], [], _ => rfl
  | b :: bs, d :: ds, h => congrArg (· + 1) (slots_len (Nat.succ.inj h))
  | [], _ :: _, h => by cases h
  | _ :: _, [], h => by cases h
theorem slots_get : ∀ {bs : List Bool} {ds : List D} {i : Nat} {x : Option Sl}, (slots bs ds)[i]? = some x → ∃ b d, bs[i]? = some b ∧ ds[i]? = some d ∧ x = some (if b then .bor d else .val d)
  | b :: bs, d :: ds, 0, x, h => by simp [slots] at h; exact ⟨b, d, rfl, rfl, h.symm⟩
  | b :: bs, d :: ds, i + 1, x, h => by
    obtain ⟨b', d', h1, h2, h3⟩ := slots_get (bs := bs) (ds := ds) (i := i) (x := x) (by simpa [slots] using h)
    exact ⟨b', d', by simpa using h1, by simpa using h2, h3⟩
  | [], _, _, _, h => by simp [slots] at h
  | _ :: _, [], _, _, h => by simp [slots] at h
theorem good_start {S : SA} {F H : Hp} {N : List Str} {bs : List Bool} {ds : List D} {vs : List V} (s : Sub F H) (h1 : F S.sa = none) (h2 : F S.ca = none) (st : StOk S H) (r : ArgsR S F H bs ds vs) :
    Good S (fun a => if a = S.sa ∨ a = S.ca then none else H a) F (L2.start N vs) H (envOf N.length bs ds) := by
  have hl := slots_len r.len.1
  have slot : ∀ (i : Nat) (x : Option Sl), (envOf N.length bs ds)[i]? = some x → x = none ∨ ∃ b d, bs[i]? = some b ∧ ds[i]? = some d ∧ x = some (if b then .bor d else .val d) := fun i x e => by
    unfold envOf at e
    rcases Nat.lt_or_ge i (slots bs ds).length with hi | hi
    · rw [List.getElem?_append_left hi] at e
      exact .inr (slots_get e)
    · rw [List.getElem?_append_right hi, List.getElem?_replicate] at e
      split at e
      · cases e; exact .inl rfl
      · cases e
  refine ⟨fun a o e => ?_, fun a o e => ?_, st, by rw [if_pos (.inl rfl)], by rw [if_pos (.inr rfl)], ?_, fun i sl e => ?_, fun i j di dj a e => ?_⟩
  · split at e
    · cases e
    · exact e
  · have n : ¬ (a = S.sa ∨ a = S.ca) := by
      rintro (z | z)
      · rw [z, h1] at e; cases e
      · rw [z, h2] at e; cases e
    rw [if_neg n]; exact s a o e
  · unfold L2.start envOf
    rw [List.length_append, List.length_append, List.length_map, hl, List.length_replicate, List.length_replicate, r.len.1, r.len.2]
  · rcases slot i _ e with z | ⟨b, d, q1, q2, q3⟩
    · cases z
    · obtain ⟨b', v, q4, q5, q6⟩ := r.get q2
      rw [q1] at q4
      cases q4
      cases q3
      cases b with
      | true =>
        refine ⟨v, start_get q5, ?_⟩
        rcases q6 with q6 | ⟨_, a, e, n1, n2, q6⟩
        · exact .inl q6
        · exact .inr ⟨a, e, ownR_mono (Sub.refl _) (fun o z => by rw [if_neg (by rintro (z | z); exact n1 z; exact n2 z)]; exact z) q6⟩
      | false =>
        rcases q6 with q6 | ⟨hb, _⟩
        · exact ⟨v, start_get q5, q6⟩
        · cases hb
  · rcases slot i _ e with z | ⟨b, d, q1, q2, q3⟩
    · cases z
    · cases b <;> cases q3
section
variable {P : Program} {w : World} {K : PySem.W.Frag} {mg : Str → Option Value} {base : Heap}
/-- THE RULE for a def of the text: its body tells its mirror -/
theorem fn_ok {S : SA} {x qual : Str} {st : Stmt} {f : Addr} {fd : FuncData} {N ps : List Str} {k : Nat} {mb : DS} (bs : List Bool) (F : Fun K x qual st f fd) (Sc : FnScope N ps (defScope st)) (hn : ps.length = bs.length)
    (body : ∀ (cdv : Value) (A : Around) (outer : List Env) (s : Shared) (H : Hp) (E : XK), Room k (A.deeper (envOfC qual (defScope st) s.heap.objs.size f cdv)) → QSs S (cxOf CX0 P w K mg base N qual (defScope st) f cdv A outer s H E).nox (defBody st) mb) :
    FnOk P w K mg base CX0 (k + 1) f fd ps (spD S bs (fnM N.length bs mb)) := by
  refine F.ok Sc (fun vs H Q E h => ?_) (fun cdv A outer s H vs Q E hr h => ?_)
  · obtain ⟨F, ds, _, _, _, _, r, _⟩ := h
    rw [r.len.2, hn]
  · obtain ⟨F, ds, h1, h2, h3, h4, r, q⟩ := h
    refine ⟨_, body cdv A outer s H E hr, fun a => if a = S.sa ∨ a = S.ca then none else H a, F, _, good_start h1 h2 h3 h4 r, M.wp_mono (M.wpb q) fun r q σ' G' F' H' x g' => ?_⟩
    have fin : ∀ {d : D} {v : V}, (∀ v F' H', Sub F F' → Sub F' H' → (∀ a, F a = none → F' a ≠ none → H a = none) → (∀ a o, a ≠ S.sa → a ≠ S.ca → H a = some o → H' a = some o) → StOk S H' → Rp S F' d v → Q v H') → Rp S F' d v → Q v H' := fun {d v} q rv => by
      refine q v F' H' x.f g'.fh (fun a e1 e2 => ?_) (fun a o n1 n2 e => ?_) g'.st rv
      · cases e3 : H a with
        | none => rfl
        | some o =>
          have n1 : a ≠ S.sa := fun z => e2 (by rw [z]; exact g'.fsa)
          have n2 : a ≠ S.ca := fun z => e2 (by rw [z]; exact g'.fca)
          exact absurd (x.n a e1 (by rw [if_neg (by rintro (z | z); exact n1 z; exact n2 z), e3]; simp)) e2
      · refine g'.kp a o (x.g a o ?_)
        rw [if_neg (by rintro (z | z); exact n1 z; exact n2 z)]; exact e
    obtain ⟨fl, env'⟩ := r
    cases fl with
    | rt d => exact fun v rv => fin q rv
    | nx => exact fin (d := .non) q .non
    | bk => exact q.elim
    | ct => exact q.elim
/-- nothing is promised -/
theorem fn_zero {S : SA} {f : Addr} {fd : FuncData} {ps : List Str} {k : Nat} {bs : List Bool} : FnOk P w K mg base CX0 k f fd ps (spD S bs fun _ => .fail) := by
  have no : ∀ vs H Q E, ¬ spD S bs (fun _ => .fail) vs H Q E := fun vs H Q E h => by
    obtain ⟨F, ds, _, _, _, _, _, q⟩ := h
    exact q
  exact ⟨fun vs H Q E h => absurd h (no vs H Q E), fun A outer s H args us vs Q E _ _ _ _ h => absurd h (no vs H Q E)⟩

/-! ### the law's own draws: _law_take(state, most) -/
def takeM : List D → M D
  | [.stt, .int k] => .ask k fun r => .ret (.int r)
  | _ => .fail
def spTake (S : SA) : Sp := fun vs H Q _ => ∃ k : Int, vs = [.ref S.sa, .int k] ∧ 0 < k ∧ k < 2 ^ 30 ∧ StOk S H ∧ ∀ (r : Int) (H' : Hp), 0 ≤ r → r < k → StOk S H' → (∀ a, a ≠ S.sa → a ≠ S.ca → H' a = H a) → Q (.int r) H'
theorem take_fn {S : SA} {f : Addr} {fd : FuncData} {ps : List Str} {k : Nat} (FO : FnOk P w K mg base CX0 k f fd ps (spTake S)) : FnOk P w K mg base CX0 k f fd ps (spD S [false, false] takeM) :=
  FO.imp fun vs H Q E h => by
    obtain ⟨F, ds, h1, h2, h3, h4, r, q⟩ := h
    unfold takeM at q
    split at q
    · rename_i k
      obtain ⟨⟨k0, k1⟩, q⟩ := q
      cases r with
      | cons r1 t =>
        cases t with
        | cons r2 t =>
          cases t
          have r1 := r1.resolve_right (fun z => by cases z.1)
          have r2 := r2.resolve_right (fun z => by cases z.1)
          cases r1
          cases r2
          refine ⟨k, rfl, k0, k1, h4, fun z H' z0 z1 st kp => q z z0 z1 _ F H' (Sub.refl _) (fun a o e => ?_) (fun a e1 e2 => absurd e1 e2) (fun a o n1 n2 e => by rw [kp a n1 n2]; exact e) st (.int z)⟩
          have n1 : a ≠ S.sa := fun z => by rw [z, h2] at e; cases e
          have n2 : a ≠ S.ca := fun z => by rw [z, h3] at e; cases e
          rw [kp a n1 n2]; exact h1 a o e
    · exact q.elim
end
end DL

set_option Elab.async false
set_option linter.all false
set_option maxRecDepth 100000
/-! DL9: more statements; comprehensions of two clauses; dicts. -/
namespace DL
open PySem PySem.Spec L2
open PyProof.Rows hiding St

theorem hu65 {A : Around} {k : Nat} (hr : Room k A) : A.units + 65 < cLine := by have := hr.un; omega
theorem hu64 {A : Around} {k : Nat} (hr : Room k A) : A.units + 64 < cLine := by have := hr.un; omega
theorem hu1 {A : Around} {k : Nat} (hr : Room k A) : A.units + 1 < cLine := by have := hr.un; omega
section
variable {S : SA} {X : Cx} {G F G' F' H H' : Hp} {σ : L2.St} {env : DEnv} {d : D} {v : V} {p : Addr} {Q : VK} {m ma mb mc : DE} {t ta tb : DT} {ms : DA} {a b c e : Expr} {es rest : List Expr} {pos pp : Pos} {x : Str} {i : Nat}
theorem mLc_lst {vs : List Nat} {mi : DI} {gg : DG} {mt : DT} {me : DE} {P : D → Prop} (q : (mLc vs mi gg mt me env).wp P) : (mLc vs mi gg mt me env).wp fun d => ∃ xs, d = .lst xs ∧ P d := by
  unfold mLc at q ⊢
  split at q
  · rename_i h
    rw [if_pos h]
    exact M.wp_bind.mpr (M.wp_mono (M.wpb q) fun ds q => M.wp_bind.mpr (M.wp_mono (M.wpb q) fun ys q => ⟨ys, rfl, q⟩))
  · exact q.elim
theorem postF_set {xs : List D} {D' : Ends} (h : PostS S G F D' (.nx, env.set i (some (.val (.lst xs))))) : PostF S G F σ env (fun x H1 => D'.nx (σ.set i (some x)) H1) (.lst xs) :=
  post_freshL fun v G' F' H' e g r => h _ G' F' H' e (g.setVal r)
/-- y = [..], y a local name that stands still at once -/
theorem qsetLcV (i : Nat) (own : List (Str × Nat)) {y : Str} {py : Pos} {tg iter : Expr} {ifs : List Expr} {scope : Scope} {mi : DI} {gg : DG} {mt : DT} {me : DE} (hN : X.N.Nodup) (hi : QI (imComp (own.map (·.2))) S X tg iter mi) (ok : BlkOk X.N X.env.scope scope own)
    (hg : ∀ (s : Shared) (H : Hp) (C : Addr) (cl : List (Str × Addr)) (fp : List Addr), QG S (own.map (·.2)) (X.blk s H scope (compEnvC scope cl C X.env) fp) tg gg) (ht : ∀ (s : Shared) (H : Hp) (C : Addr) (cl : List (Str × Addr)) (fp : List Addr), QTs S (X.blk s H scope (compEnvC scope cl C X.env) fp) ifs mt)
    (he : ∀ (s : Shared) (H : Hp) (C : Addr) (cl : List (Str × Addr)) (fp : List Addr), QE S (X.blk s H scope (compEnvC scope cl C X.env) fp) e me)
    (hsw : swapsWith (.ListComp e [⟨tg, iter, ifs, 0⟩] scope pos) (some (.Name y py)) pp.line X.env = pure true)
    (hy : X.N[i]? = some y := by rfl) (hyl : X.env.scope.names.lookup y = some .local := by rfl) (hc : X.calm = true := by rfl) (hs : ∀ x, foldedSetIterable iter X.env x = pure x := by intro _; rfl) :
    QS S X (.Assign [.Name y py] (.ListComp e [⟨tg, iter, ifs, 0⟩] scope pos) pp) (mSetV i (mLc (own.map (·.2)) mi gg mt me)) :=
  ps_weak (ps_setLc hc hN hy hyl hsw hi ok hg ht he hs) fun D' σ H ⟨G, F, env, g, q⟩ => by
    show tLc _ _ _ _ _ σ H fun x H1 => gName i x σ H1 D'.nx
    refine lc_read g (M.wp_mono (mLc_lst (M.wpb q)) fun d q => ?_)
    obtain ⟨xs, rfl, q⟩ := q
    exact postF_set q
/-! ### two clauses -/
def mLc2I (vs1 : List Nat) (g1 : DG) (mt1 : DT) (me : DE) (env1 : DEnv) : List D → List D → M (List D)
  | [], acc => .ret acc
  | d :: ds, acc => g1 d (wipeE env1 vs1) >>= fun env2 => mt1 env2 >>= fun k => if k then me env2 >>= fun y => if acc.length < sizeLine then mLc2I vs1 g1 mt1 me env1 ds (acc ++ [y]) else .fail else mLc2I vs1 g1 mt1 me env1 ds acc
def mLc2L (vs vs1 : List Nat) (gg : DG) (mt : DT) (mi1 : DI) (g1 : DG) (mt1 : DT) (me : DE) (envw : DEnv) : List D → List D → M (List D)
  | [], acc => .ret acc
  | d :: ds, acc => gg d envw >>= fun env1 => mt env1 >>= fun k => if k then (if vs.all (notOwn env1) then mi1 env1 >>= fun es => mLc2I vs1 g1 mt1 me env1 es acc >>= fun acc' => mLc2L vs vs1 gg mt mi1 g1 mt1 me envw ds acc' else .fail) else mLc2L vs vs1 gg mt mi1 g1 mt1 me envw ds acc
def mLc2 (vs vs1 : List Nat) (mi : DI) (gg : DG) (mt : DT) (mi1 : DI) (g1 : DG) (mt1 : DT) (me : DE) : DE := fun env => if vs.all (notOwn env) then mi env >>= fun ds => mLc2L vs vs1 gg mt mi1 g1 mt1 me (wipeE env vs) ds [] >>= fun ys => .ret (.lst ys) else .fail
/-- the list that grows, seen from within a turn -/
theorem Grow.inner {G3 F3 H3 : Hp} {o : HO} (g3 : Good S G3 F3 σ H3 env) (k3 : G3 p = some o) (f3 : F3 p = none) {us : List V} {acc : List D} {n : Nat} (eo : o = .lst us) (r : RpL S F3 acc us) (hn : us.length ≤ n) (hb : NoBor σ env p) : Grow S (delH G3 p) F3 σ env p H3 acc n (delH G3 p) F3 := by
  subst eo
  have gb := g3.chg (o' := .lst us) k3 f3 hb
  have eH : upd H3 p (.lst us) = H3 := by
    funext a
    by_cases z : a = p
    · subst z; rw [upd_same]; exact (g3.kp _ _ k3).symm
    · rw [upd_ne z]
  rw [eH] at gb
  refine ⟨Ext.refl _ _, gb, by unfold delH; rw [if_pos rfl], fun i di e z => ?_, ⟨us, g3.kp _ _ k3, r, hn⟩, hb⟩
  obtain ⟨a, h1, h2, _⟩ := g3.slot i _ e
  rw [z] at h1
  cases h1
  rw [k3] at h2; cases h2
/-- and from without again -/
theorem Grow.outer {G1 F1 H0 : Hp} {acc0 acc : List D} {n0 n : Nat} {G2 F2 G3 F3 G5 F5 : Hp} {σ3 : L2.St} {env3 : DEnv} {o : HO} {vs : List Nat} (w : Grow S G1 F1 σ env p H0 acc0 n0 G2 F2) (ho : H0 p = some o) (ok : vs.all (notOwn env) = true)
    (x : Ext (upd G2 p o) F2 G3 F3) (on : Only vs (wipe σ vs) (wipeE env vs) σ3 env3) (w1 : Grow S (delH G3 p) F3 σ3 env3 p H acc n G5 F5) : Grow S G1 F1 σ env p H acc n G5 F5 := by
  have sf : Sub F2 F5 := x.f.trans w1.x.f
  have f2 : F2 p = none := w.g.fg.no w.no
  have f3 : F3 p = none := x.n p f2 (by rw [upd_same]; simp)
  refine ⟨w.x.trans ⟨fun a u e => ?_, sf, fun a e1 e2 => ?_⟩, w.g.back ok on sf w1.g, w1.no, w.ows, w1.at_, w.bos⟩
  · have na : a ≠ p := fun z => by rw [z, w.no] at e; cases e
    refine w1.x.g a u ?_
    unfold delH
    rw [if_neg na]
    exact x.g a u (by rw [upd_ne na]; exact e)
  · have na : a ≠ p := fun z => e2 (by rw [z]; exact w.no)
    refine w1.x.n a (x.n a e1 (by rw [upd_ne na]; exact e2)) fun z => e2 ?_
    unfold delH at z
    rw [if_neg na] at z
    have := x.g.no (a := a) z
    rw [upd_ne na] at this
    exact this
theorem lc2_read {vs vs1 : List Nat} (hv : ∀ i ∈ vs1, i ∈ vs) {mi mi1 : DI} {gg g1 : DG} {mt mt1 : DT} {me : DE} (g : Good S G F σ H env) (q : (mLc2 vs vs1 mi gg mt mi1 g1 mt1 me env).wp (PostF S G F σ env Q)) :
    tLc2 (TIx (imComp vs) S mi) (TG_ S vs gg) (TT_ S mt) (TIx (imComp vs1) S mi1) (TG_ S vs1 g1) (TT_ S mt1) (TE_ S me) vs vs1 σ H Q := by
  unfold mLc2 at q
  split at q
  · rename_i ok
    refine ⟨G, F, env, g, ok, M.wp_mono (M.wpb q) fun ds q J G1 F1 H1 e1 gg1 its hz => ?_⟩
    intro p hp
    have nst := gg1.stNe hp
    refine ⟨fun i m H => m = ds.length - i ∧ i ≤ ds.length ∧ ∃ G2 F2 acc, Grow S G1 F1 σ env p H acc acc.length G2 F2 ∧ acc.length ≤ sizeLine ∧ (mLc2L vs vs1 gg mt mi1 g1 mt1 me (wipeE env vs) (ds.drop i) acc).wp (fun ys => PostF S G F σ env Q (.lst ys)),
      ⟨ds.length, by simp, Nat.zero_le _, G1, F1, [], Grow.start gg1 hp, Nat.zero_le _, by rw [List.drop_zero]; exact M.wpb q⟩, ?_⟩
    rintro i m H ⟨rfl, hi, G2, F2, acc, w, hacc, q⟩
    have comp : (imComp vs).P F1 σ env F2 σ env := ⟨w.x.f, fun _ _ => ⟨rfl, rfl⟩⟩
    by_cases hlt : i < ds.length
    · obtain ⟨o, ho, xb, gb⟩ := w.blk vs nst.1 nst.2
      have compW : (imComp vs).P F1 σ env F2 (wipe σ vs) (wipeE env vs) := ⟨w.x.f, fun j hj => ⟨wipe_out hj, wipeE_out hj⟩⟩
      refine .inr ⟨its.go i _ _ _ H _ compW gb hlt, fun H => ∃ G2 F2 acc, Grow S G1 F1 σ env p H acc acc.length G2 F2 ∧ acc.length ≤ sizeLine ∧ (mLc2L vs vs1 gg mt mi1 g1 mt1 me (wipeE env vs) (ds.drop (i + 1)) acc).wp (fun ys => PostF S G F σ env Q (.lst ys)),
        fun H' h => ⟨ds.length - (i + 1), by omega, rfl, hlt, h⟩, fun x H' y => ?_⟩
      obtain ⟨G3, F3, e3, g3, r3⟩ := its.yld i _ _ _ H _ x H' ds[i] compW gb (by simp [hlt]) y
      rw [List.drop_eq_getElem_cons hlt] at q
      refine ⟨G3, F3, wipeE env vs, ds[i], g3, r3, M.wp_mono (M.wpb q) fun env3 q σ3 o3 g3' => ⟨?_, G3, F3, env3, g3', M.wp_mono (M.wpb q) fun k q G4 F4 H4 e4 g4 => ?_⟩⟩
      · rw [o3.1, wipe_idem]
      · have f2 : F2 p = none := w.g.fg.no w.no
        cases k with
        | false =>
          rw [if_neg (by decide)] at q
          refine L2.iteF ?_
          have w' := w.skip ho ok (e3.trans e4) o3 g4
          obtain ⟨us, u1, u2, u3⟩ := w'.at_
          exact ⟨delH G4 p, F4, acc, ⟨w'.x, w'.g, w'.no, w'.ows, ⟨us, u1, u2, by rw [u2.len]; exact Nat.le_refl _⟩, w'.bos⟩, hacc, q⟩
        | true =>
          rw [if_pos rfl] at q
          refine L2.iteT ?_
          split at q
          · rename_i ok0
            have ok1 : vs1.all (notOwn env3) = true := List.all_eq_true.mpr fun i hi => List.all_eq_true.mp ok0 i (hv i hi)
            have nb3 : NoBor σ3 env3 p := fun i di e z => by
              by_cases hm : i ∈ vs
              · have := List.all_eq_true.mp ok0 i hm
                simp [notOwn, e] at this
              · have q1 : (wipe σ3 vs)[i]? = (wipe (wipe σ vs) vs)[i]? := by rw [o3.1]
                have q2 : (wipeE env3 vs)[i]? = (wipeE (wipeE env vs) vs)[i]? := by rw [o3.2]
                rw [wipe_out hm, wipe_out hm, wipe_out hm] at q1
                rw [wipeE_out hm, wipeE_out hm, wipeE_out hm] at q2
                exact w.bos i di (q2.symm.trans e) (q1.symm.trans z)
            refine ⟨G4, F4, env3, g4, ok1, M.wp_mono (M.wpb q) fun es q J1 G5 F5 H5 e5 g5 its1 hz1 => ?_⟩
            have xx := e3.trans (e4.trans e5)
            obtain ⟨us, u1, u2, u3⟩ := w.at_
            have eo : o = .lst us := by rw [u1] at ho; exact (Option.some.inj ho).symm
            have k5 : G5 p = some o := xx.g _ _ upd_same
            have f5 : F5 p = none := xx.n p f2 (by rw [upd_same]; simp)
            have wi : Grow S (delH G5 p) F5 σ3 env3 p H5 acc acc.length (delH G5 p) F5 := Grow.inner g5 k5 f5 eo (u2.mono xx.f) (by rw [(u2.mono xx.f).len]; exact Nat.le_refl _) nb3
            refine ⟨fun j l H => l = es.length - j ∧ j ≤ es.length ∧ ∃ G6 F6 acc, Grow S (delH G5 p) F5 σ3 env3 p H acc acc.length G6 F6 ∧ acc.length ≤ sizeLine ∧
              (mLc2I vs1 g1 mt1 me env3 (es.drop j) acc).wp (fun acc' => (mLc2L vs vs1 gg mt mi1 g1 mt1 me (wipeE env vs) (ds.drop (i + 1)) acc').wp (fun ys => PostF S G F σ env Q (.lst ys))),
              ⟨es.length, by simp, Nat.zero_le _, _, _, acc, wi, hacc, by rw [List.drop_zero]; exact M.wpb q⟩, ?_⟩
            rintro j l H ⟨rfl, hj, G6, F6, acc6, w6, hacc6, q⟩
            have comp1 : (imComp vs1).P F5 σ3 env3 F6 σ3 env3 := ⟨w6.x.f, fun _ _ => ⟨rfl, rfl⟩⟩
            by_cases hlt1 : j < es.length
            · obtain ⟨o6, ho6, xb6, gb6⟩ := w6.blk vs1 nst.1 nst.2
              have compW1 : (imComp vs1).P F5 σ3 env3 F6 (wipe σ3 vs1) (wipeE env3 vs1) := ⟨w6.x.f, fun j hj => ⟨wipe_out hj, wipeE_out hj⟩⟩
              refine .inr ⟨its1.go j _ _ _ H _ compW1 gb6 hlt1, fun H => ∃ G6 F6 acc, Grow S (delH G5 p) F5 σ3 env3 p H acc acc.length G6 F6 ∧ acc.length ≤ sizeLine ∧
                (mLc2I vs1 g1 mt1 me env3 (es.drop (j + 1)) acc).wp (fun acc' => (mLc2L vs vs1 gg mt mi1 g1 mt1 me (wipeE env vs) (ds.drop (i + 1)) acc').wp (fun ys => PostF S G F σ env Q (.lst ys))),
                fun H' h => ⟨es.length - (j + 1), by omega, rfl, hlt1, h⟩, fun x H' y => ?_⟩
              obtain ⟨G7, F7, e7, g7, r7⟩ := its1.yld j _ _ _ H _ x H' es[j] compW1 gb6 (by simp [hlt1]) y
              rw [List.drop_eq_getElem_cons hlt1] at q
              refine ⟨G7, F7, wipeE env3 vs1, es[j], g7, r7, M.wp_mono (M.wpb q) fun env8 q σ8 o8 g8 => ⟨?_, G7, F7, env8, g8, M.wp_mono (M.wpb q) fun k q G9 F9 H9 e9 g9 => ?_⟩⟩
              · rw [o8.1, wipe_idem]
              · cases k with
                | false =>
                  rw [if_neg (by decide)] at q
                  refine L2.iteF ?_
                  have w' := w6.skip ho6 ok1 (e7.trans e9) o8 g9
                  obtain ⟨us', v1, v2, v3⟩ := w'.at_
                  exact ⟨delH G9 p, F9, acc6, ⟨w'.x, w'.g, w'.no, w'.ows, ⟨us', v1, v2, by rw [v2.len]; exact Nat.le_refl _⟩, w'.bos⟩, hacc6, q⟩
                | true =>
                  rw [if_pos rfl] at q
                  refine L2.iteT ?_
                  refine ⟨G9, F9, env8, g9, M.wp_mono (M.wpb q) fun yd q u G10 F10 H10 e10 g10 r10 => ?_⟩
                  split at q
                  · rename_i hsz
                    obtain ⟨us', hus, hul, w'⟩ := w6.next ho6 ok1 (e7.trans (e9.trans e10)) o8 g10 r10
                    refine ⟨us', hus, by omega, delH G10 p, F10, acc6 ++ [yd], ?_, by rw [List.length_append, List.length_singleton]; omega, q⟩
                    rw [List.length_append, List.length_singleton]
                    exact w'
                  · exact q.elim
            · have ej : j = es.length := by omega
              subst ej
              rw [List.drop_length] at q
              exact .inl ⟨its1.stop _ G6 F6 σ3 H env3 comp1 w6.g (Nat.le_refl _), G6, F6, acc6, w.outer ho ok xx o3 w6, hacc6, q⟩
          · exact q.elim
    · have e : i = ds.length := by omega
      subst e
      rw [List.drop_length] at q
      obtain ⟨us, h1, h2, h3⟩ := w.at_
      refine .inl ⟨its.stop _ G2 F2 σ H env comp w.g (Nat.le_refl _), ?_⟩
      have q' : PostF S G F σ env Q (.lst acc) := q
      exact q' p G2 F2 H (e1.trans w.x) w.g ⟨w.no, nst.1, nst.2, w.ows, us, h1, h2, by omega⟩
  · exact q.elim
theorem qlc2 (own : List (Str × Nat)) (vs1 : List Nat) {tg iter tg1 iter1 : Expr} {ifs ifs1 : List Expr} {scope : Scope} {mi mi1 : DI} {gg g1 : DG} {mt mt1 : DT} {me : DE} (hN : X.N.Nodup) (hi : QI (imComp (own.map (·.2))) S X tg iter mi) (ok : BlkOk X.N X.env.scope scope own)
    (hg : ∀ (s : Shared) (H : Hp) (C : Addr) (cl : List (Str × Addr)) (fp : List Addr), QG S (own.map (·.2)) (X.blk s H scope (compEnvC scope cl C X.env) fp) tg gg) (ht : ∀ (s : Shared) (H : Hp) (C : Addr) (cl : List (Str × Addr)) (fp : List Addr), QTs S (X.blk s H scope (compEnvC scope cl C X.env) fp) ifs mt)
    (hi1 : ∀ (s : Shared) (H : Hp) (C : Addr) (cl : List (Str × Addr)) (fp : List Addr), QI (imComp vs1) S (X.blk s H scope (compEnvC scope cl C X.env) fp) tg1 iter1 mi1)
    (hg1 : ∀ (s : Shared) (H : Hp) (C : Addr) (cl : List (Str × Addr)) (fp : List Addr), QG S vs1 (X.blk s H scope (compEnvC scope cl C X.env) fp) tg1 g1) (ht1 : ∀ (s : Shared) (H : Hp) (C : Addr) (cl : List (Str × Addr)) (fp : List Addr), QTs S (X.blk s H scope (compEnvC scope cl C X.env) fp) ifs1 mt1)
    (he : ∀ (s : Shared) (H : Hp) (C : Addr) (cl : List (Str × Addr)) (fp : List Addr), QE S (X.blk s H scope (compEnvC scope cl C X.env) fp) e me) (hv : ∀ i ∈ vs1, i ∈ own.map (·.2) := by decide) (hc : X.calm = true := by rfl) (hs : ∀ x, foldedSetIterable iter X.env x = pure x := by intro _; rfl)
    (hs1 : ∀ env x, foldedSetIterable iter1 env x = pure x := by intro _ _; rfl) :
    QF S X (.ListComp e [⟨tg, iter, ifs, 0⟩, ⟨tg1, iter1, ifs1, 0⟩] scope pos) (mLc2 (own.map (·.2)) vs1 mi gg mt mi1 g1 mt1 me) :=
  pe_weak (pe_lc2 hc hN hi ok hv hg ht hi1 hg1 ht1 he hs hs1) fun σ H Q ⟨G, F, env, g, q⟩ => lc2_read hv g q
theorem mLc2_lst {vs vs1 : List Nat} {mi mi1 : DI} {gg g1 : DG} {mt mt1 : DT} {me : DE} {P : D → Prop} (q : (mLc2 vs vs1 mi gg mt mi1 g1 mt1 me env).wp P) : (mLc2 vs vs1 mi gg mt mi1 g1 mt1 me env).wp fun d => ∃ xs, d = .lst xs ∧ P d := by
  unfold mLc2 at q ⊢
  split at q
  · rename_i h
    rw [if_pos h]
    exact M.wp_bind.mpr (M.wp_mono (M.wpb q) fun ds q => M.wp_bind.mpr (M.wp_mono (M.wpb q) fun ys q => ⟨ys, rfl, q⟩))
  · exact q.elim
theorem qsetLc2V (i : Nat) (own : List (Str × Nat)) (vs1 : List Nat) {y : Str} {py : Pos} {tg iter tg1 iter1 : Expr} {ifs ifs1 : List Expr} {scope : Scope} {mi mi1 : DI} {gg g1 : DG} {mt mt1 : DT} {me : DE} (hN : X.N.Nodup) (hi : QI (imComp (own.map (·.2))) S X tg iter mi) (ok : BlkOk X.N X.env.scope scope own)
    (hg : ∀ (s : Shared) (H : Hp) (C : Addr) (cl : List (Str × Addr)) (fp : List Addr), QG S (own.map (·.2)) (X.blk s H scope (compEnvC scope cl C X.env) fp) tg gg) (ht : ∀ (s : Shared) (H : Hp) (C : Addr) (cl : List (Str × Addr)) (fp : List Addr), QTs S (X.blk s H scope (compEnvC scope cl C X.env) fp) ifs mt)
    (hi1 : ∀ (s : Shared) (H : Hp) (C : Addr) (cl : List (Str × Addr)) (fp : List Addr), QI (imComp vs1) S (X.blk s H scope (compEnvC scope cl C X.env) fp) tg1 iter1 mi1)
    (hg1 : ∀ (s : Shared) (H : Hp) (C : Addr) (cl : List (Str × Addr)) (fp : List Addr), QG S vs1 (X.blk s H scope (compEnvC scope cl C X.env) fp) tg1 g1) (ht1 : ∀ (s : Shared) (H : Hp) (C : Addr) (cl : List (Str × Addr)) (fp : List Addr), QTs S (X.blk s H scope (compEnvC scope cl C X.env) fp) ifs1 mt1)
    (he : ∀ (s : Shared) (H : Hp) (C : Addr) (cl : List (Str × Addr)) (fp : List Addr), QE S (X.blk s H scope (compEnvC scope cl C X.env) fp) e me)
    (hsw : swapsWith (.ListComp e [⟨tg, iter, ifs, 0⟩, ⟨tg1, iter1, ifs1, 0⟩] scope pos) (some (.Name y py)) pp.line X.env = pure true) (hv : ∀ i ∈ vs1, i ∈ own.map (·.2) := by decide)
    (hy : X.N[i]? = some y := by rfl) (hyl : X.env.scope.names.lookup y = some .local := by rfl) (hc : X.calm = true := by rfl) (hs : ∀ x, foldedSetIterable iter X.env x = pure x := by intro _; rfl)
    (hs1 : ∀ env x, foldedSetIterable iter1 env x = pure x := by intro _ _; rfl) :
    QS S X (.Assign [.Name y py] (.ListComp e [⟨tg, iter, ifs, 0⟩, ⟨tg1, iter1, ifs1, 0⟩] scope pos) pp) (mSetV i (mLc2 (own.map (·.2)) vs1 mi gg mt mi1 g1 mt1 me)) :=
  ps_weak (ps_setLc2 hc hN hy hyl hsw hi ok hv hg ht hi1 hg1 ht1 he hs hs1) fun D' σ H ⟨G, F, env, g, q⟩ => by
    show tLc2 _ _ _ _ _ _ _ _ _ σ H fun x H1 => gName i x σ H1 D'.nx
    refine lc2_read hv g (M.wp_mono (mLc2_lst (M.wpb q)) fun d q => ?_)
    obtain ⟨xs, rfl, q⟩ := q
    exact postF_set q
/-! ### three names at once -/
theorem qpar3 (i j l : Nat) {x y z : Str} {px py pz pt : Pos} {kt k2 pt2} (hN : X.N.Nodup) (ha : QA S X [a, b, c] ms) (hi : X.N[i]? = some x := by rfl) (hj : X.N[j]? = some y := by rfl) (hl : X.N[l]? = some z := by rfl) (hij : i ≠ j := by decide) (hil : i ≠ l := by decide) (hjl : j ≠ l := by decide)
    (hx : X.env.scope.names.lookup x = some .local := by rfl) (hy : X.env.scope.names.lookup y = some .local := by rfl) (hz : X.env.scope.names.lookup z = some .local := by rfl) (hc : X.calm = true := by rfl)
    (hw : swappedStores [.Tuple [.Name x px, .Name y py, .Name z pz] kt pt] (.Tuple [a, b, c] k2 pt2) X.env = pure (some [x, y, z]) := by rfl)
    (hs : swapsWithSole [.Tuple [.Name x px, .Name y py, .Name z pz] kt pt] (.Tuple [a, b, c] k2 pt2) pos.line X.env = pure false := by rfl) :
    QS S X (.Assign [.Tuple [.Name x px, .Name y py, .Name z pz] kt pt] (.Tuple [a, b, c] k2 pt2) pos) (mPar3 i j l ms) :=
  ps_weak (ps_par3 hc hN hi hj hl hij hil hjl hx hy hz ha hw hs) fun D' σ H ⟨G, F, env, g, q⟩ => ⟨G, F, env, g, M.wp_mono (M.wpb q) fun ds q vs G1 F1 H1 e1 g1 r1 => by
    cases r1 with
    | nil => exact q.elim
    | cons r t =>
      cases t with
      | nil => exact q.elim
      | cons r' t =>
        cases t with
        | nil => exact q.elim
        | cons r'' t =>
          cases t with
          | nil => exact ⟨_, _, _, rfl, q _ G1 F1 H1 e1 (((g1.setVal r).setVal r').setVal r'')⟩
          | cons _ _ => exact q.elim⟩
end
end DL

set_option Elab.async false
set_option linter.all false
set_option maxRecDepth 100000
/-! DL10: stores into own lists and dicts, more of what is built in. -/
namespace DL
open PySem PySem.Spec L2
open PyProof.Rows hiding St

section
variable {S : SA} {X : Cx} {G F G' F' H H' : Hp} {σ : L2.St} {env : DEnv} {d : D} {v : V} {p : Addr} {Q : VK} {m ma mb mc mk mv : DE} {t ta tb : DT} {ms : DA} {a b c e : Expr} {es rest : List Expr} {pos pp : Pos} {x : Str} {i : Nat}
/-! ### // and * -/
theorem o_fdiv : OpD S X (binaryOp .FloorDiv) dFdiv := opD_I op_fdiv fun i j h => by
  simp only [Bool.and_eq_true, decide_eq_true_eq] at h
  exact ⟨h.1, by have := h.2; omega⟩
def dRep : D → D → M D
  | .lst xs, .int k => if decide (-(2 ^ 63) ≤ k) && (decide (k < 2 ^ 63) && decide (xs.length * k.toNat ≤ sizeLine)) then .ret (.lst (List.replicate k.toNat xs).flatten) else .fail
  | _, _ => .fail
theorem rep_rpl {ds : List D} {vs : List V} (r : RpL S F ds vs) : ∀ n : Nat, RpL S F (List.replicate n ds).flatten (List.replicate n vs).flatten
  | 0 => .nil
  | n + 1 => by
    rw [List.replicate_succ, List.replicate_succ, List.flatten_cons, List.flatten_cons]
    exact r.append (rep_rpl r n)
theorem rep_len {α : Type} (l : List α) : ∀ n : Nat, (List.replicate n l).flatten.length = n * l.length
  | 0 => by simp
  | n + 1 => by rw [List.replicate_succ, List.flatten_cons, List.length_append, rep_len l n, Nat.succ_mul]; omega
theorem o_rep : OpF S X (binaryOp .Mult) dRep := ⟨_, op_rep, fun G F σ H env x y d e Q g r1 r2 q => by
  cases d with
  | lst xs =>
    cases e with
    | int k =>
      simp only [dRep] at q
      split at q
      · rename_i hc
        simp only [Bool.and_eq_true, decide_eq_true_eq] at hc
        obtain ⟨p, vs, rfl, h1, l1, z1⟩ := r1.lst g
        obtain rfl := r2.int g
        have n1 := l1.len
        refine ⟨p, k, vs, rfl, rfl, h1, hc.1, hc.2.1, by rw [← n1]; exact hc.2.2, fun t ht => PostF.lst q g ht (rep_rpl l1 _) ?_⟩
        rw [rep_len, ← n1, Nat.mul_comm]
        exact hc.2.2
      · exact q.elim
    | _ => exact q.elim
  | _ => exact q.elim⟩
/-! ### an own list: extend, xs[k] = v -/
theorem wp_det {α β : Type} {mm : M α} {f : α → M β} {P : β → Prop} {R : Prop} (h1 : mm.wp fun a => (f a).wp P) (h2 : ∀ a, (f a).wp P → R) : R := by
  induction mm with
  | ret a => exact h2 a h1
  | fail => exact h1.elim
  | ask k g ih => exact ih 0 (h1.2 0 (Int.le_refl _) h1.1.1)
def mExtend (i : Nat) (m : DE) : DS := fun env => m env >>= fun d => match env[i]?, d with
  | some (some (.own (.lst xs))), .lst ys => if xs.length + ys.length ≤ sizeLine then .ret (.nx, env.set i (some (.own (.lst (xs ++ ys))))) else .fail
  | _, _ => .fail
theorem qextend (i : Nat) {x : Str} {np apos cpos epos : Pos} (ha : QB S X e m) (hN : X.N[i]? = some x := by rfl) (hv : Vis X.env.scope x := by first | exact Or.inl rfl | exact Or.inr (Or.inl rfl) | exact Or.inr (Or.inr rfl)) (hd : (x == ("__debug__" : Str)) = false := by decide)
    (hcd : (x == ("__classdict__" : Str)) = false := by decide) (n1 : starEach [e] X.env = (false, eval e X.env) :: starEach [] X.env := by rfl)
    (hbase : attributeBase (.Name x np) "extend" X.env (eval (.Name x np) X.env) = eval (.Name x np) X.env := by rfl)
    (hfew : ((backTo cpos (starEach [e] X.env)).all (fun x => !x.1) && (backToKw cpos (keywordEach [] X.env)).all (fun x => x.1.isSome)
      && decide ([e].length + ([] : List Keyword).length + (if ([] : List Keyword).isEmpty then 0 else 1) < 30)) = true := by rfl)
    (hline : (apos.endLine == cpos.line) = true := by rfl) (hplain : (backTo cpos (starEach [] X.env)).any (·.1) = false := by rfl) (hs : swapsWith (.Call (.Attribute (.Name x np) "extend" apos) [e] [] cpos) none epos.line X.env = pure false := by rfl) :
    QS S X (.Expr (.Call (.Attribute (.Name x np) "extend" apos) [e] [] cpos) epos) (mExtend i m) :=
  ps_weak (ps_expr (pe_bm PySem.F.plainAttrs_list PySem.F.slot_list_extend PySem.F.type_list_extend mt_extend (pe_var hN hv hd hcd) (qab_cons ha qab_nil n1) hbase hfew hline n1 hplain) hs) fun D' σ H ⟨G, F, env, g, q⟩ => by
    obtain ⟨xs, e⟩ : ∃ xs, env[i]? = some (some (.own (.lst xs))) := wp_det (M.wpb q) fun a h => by
      split at h
      · rename_i xs ys e; exact ⟨xs, e⟩
      · exact h.elim
    obtain ⟨a, ha', _, _, _, vs, hv', _⟩ := g.slot i _ e
    refine ⟨.ref a, ha', .inl ⟨rfl, vs, .of hv'⟩, G, F, env, g, ?_⟩
    have q' := M.wpb q
    rw [e] at q'
    show M.wp (M.bind (m env) fun x => M.bind (M.ret []) fun xs => M.ret (x :: xs)) _
    rw [M.wp_bind]
    refine M.wp_mono q' fun d q us G1 F1 H1 e1 g1 r1 => ?_
    split at q
    · rename_i _ _ xs' ys q0
      cases q0
      split at q
      · cases r1 with
        | cons r t =>
          cases t
          obtain ⟨p2, zs, rfl, z1, z2, z3⟩ := r.lst g1
          obtain ⟨b, b1, b2, b3, b4, ws, b5, b6, b7⟩ := g1.slot i _ e
          rw [ha'] at b1
          cases b1
          have n := b6.len
          have n2 := z2.len
          exact ⟨a, p2, ws, zs, rfl, rfl, b5, z1, by omega, q _ G1 F1 _ e1 (g1.ownSet e ha' (b6.append z2) (by rw [List.length_append]; omega))⟩
      · exact q.elim
    · exact q.elim
def mPutL (i : Nat) (mk mv : DE) : DS := fun env => mv env >>= fun d => mk env >>= fun k => match env[i]?, k with
  | some (some (.own (.lst xs))), .int j => match ixN xs.length j with
    | some n => .ret (.nx, env.set i (some (.own (.lst (xs.set n d)))))
    | none => .fail
  | _, _ => .fail
theorem qputL (i : Nat) {x : Str} {np tpos : Pos} (hk : QB S X b mk) (hv' : QE S X e mv) (hN : X.N[i]? = some x := by rfl) (hv : Vis X.env.scope x := by first | exact Or.inl rfl | exact Or.inr (Or.inl rfl) | exact Or.inr (Or.inr rfl)) (hd : (x == ("__debug__" : Str)) = false := by decide)
    (hcd : (x == ("__classdict__" : Str)) = false := by decide)
    (ha : ∀ v, assign (.Subscript (.Name x np) b tpos) X.env v = (do
      let ov ← holding [v] (eval (.Name x np) X.env)
      let iv ← holding [v, ov] (eval b X.env)
      standAt tpos
      holding [v, ov, iv] (setItem ov iv v)
      release [v, ov, iv] []) := by intro _; rfl)
    (hs : swapsWithSole [.Subscript (.Name x np) b tpos] e pos.line X.env = pure false := by rfl) (hw : swappedStores [.Subscript (.Name x np) b tpos] e X.env = pure none := by rfl)
    (h1 : (assignEach [.Subscript (.Name x np) b tpos] X.env).map (·.2) = [assign (.Subscript (.Name x np) b tpos) X.env] := by rfl) : QS S X (.Assign [.Subscript (.Name x np) b tpos] e pos) (mPutL i mk mv) :=
  ps_weak (ps_asg hv' (pg_sub (pe_var hN hv hd hcd) hk set_list ha) hs hw h1) fun D' σ H ⟨G, F, env, g, q⟩ => by
    refine ⟨G, F, env, g, M.wp_mono (M.wpb q) fun d q v G1 F1 H1 e1 g1 r1 => ?_⟩
    obtain ⟨xs, e⟩ : ∃ xs, env[i]? = some (some (.own (.lst xs))) := wp_det (M.wpb q) fun a h => by
      split at h
      · rename_i xs j e; exact ⟨xs, e⟩
      · exact h.elim
    obtain ⟨a, ha', _, _, _, vs, hv', _⟩ := g1.slot i _ e
    have q' := M.wpb q
    rw [e] at q'
    refine ⟨.ref a, ha', G1, F1, env, g1, M.wp_mono q' fun k q u G2 F2 H2 e2 g2 r2 => ?_⟩
    split at q
    · rename_i _ _ xs' j q0
      cases q0
      split at q
      · rename_i n hn
        obtain rfl := r2.int g2
        obtain ⟨b, b1, b2, b3, b4, ws, b5, b6, b7⟩ := g2.slot i _ e
        rw [ha'] at b1
        cases b1
        exact ⟨a, ws, j, n, rfl, rfl, b5, by rw [← b6.len]; exact hn, q _ G2 F2 _ (e1.trans e2) (g2.ownSet e ha' (RpL.set (r1.mono e2.f) n b6) (by rw [List.length_set]; exact b7))⟩
      · exact q.elim
    · exact q.elim
/-! ### dicts: new ones, d[k] = v, d.get(k, x) -/
def mNewK : DE := fun _ => .ret (.dct false [])
def mNewT : DE := fun _ => .ret (.dct true [])
theorem qnewK : QF S X (.Dict [] [] pos) mNewK := pe_weak pe_dnewK fun σ H Q ⟨G, F, env, g, q⟩ p hp =>
  (show PostF S G F σ env Q (.dct false []) from q) p G F _ (Ext.refl _ _) (g.new hp _) ⟨g.no hp, (g.stNe hp).1, (g.stNe hp).2, g.ownNe hp, [], upd_same, .nil, Nat.zero_le _⟩
theorem qnewT : QF S X (.Dict [] [] pos) mNewT := pe_weak pe_dnewT fun σ H Q ⟨G, F, env, g, q⟩ p hp =>
  (show PostF S G F σ env Q (.dct true []) from q) p G F _ (Ext.refl _ _) (g.new hp _) ⟨g.no hp, (g.stNe hp).1, (g.stNe hp).2, g.ownNe hp, [], upd_same, .nil, Nat.zero_le _⟩
/-- an own object at name i is another one -/
theorem Good.ownPut {u : HO} {d' : D} (g : Good S G F σ H env) (e : env[i]? = some (some (.own d))) (hp : σ[i]? = some (some (.ref p))) (o : OwnR S F (upd H p u) p d') : Good S G F σ (upd H p u) (env.set i (some (.own d'))) := by
  obtain ⟨a, h1, h2, h3, h4, h5⟩ := g.slot i _ e
  rw [hp] at h1
  cases h1
  have hi : i < env.length := (List.getElem?_eq_some_iff.mp e).1
  refine ⟨fun b u q => ?_, g.fg, ⟨g.st.1, ?_⟩, g.ns, g.nc, by rw [List.length_set]; exact g.len, fun j sl q => ?_, fun j k dj dk b e1 e2 e3 e4 => ?_⟩
  · have nb : b ≠ p := fun z => by rw [z, h2] at q; cases q
    rw [upd_ne nb]; exact g.kp b u q
  · obtain ⟨_, n, cs, q1, q2, q3⟩ := g.st
    exact ⟨n, cs, by rw [upd_ne h3.symm]; exact q1, by rw [upd_ne h4.symm]; exact q2, q3⟩
  · by_cases hij : i = j
    · subst hij
      rw [List.getElem?_set_self hi] at q
      cases q
      exact ⟨p, hp, h2, h3, h4, o⟩
    · rw [List.getElem?_set_ne hij] at q
      have w := g.slot j sl q
      cases sl with
      | val d' => exact w
      | bor d' => exact w
      | own d' =>
        obtain ⟨b, w1, w2, w3, w4, w5⟩ := w
        have nb : b ≠ p := by
          rintro rfl
          exact hij (g.dist i j _ _ b e q hp w1)
        exact ⟨b, w1, w2, w3, w4, ownR_mono (Sub.refl _) (fun o z => by rw [upd_ne nb]; exact z) w5⟩
  · have fix : ∀ (l : Nat) (dl : D), (env.set i (some (.own d')))[l]? = some (some (.own dl)) → ∃ dl', env[l]? = some (some (.own dl')) := fun l dl q => by
      by_cases hl : i = l
      · subst hl; exact ⟨d, e⟩
      · rw [List.getElem?_set_ne hl] at q; exact ⟨dl, q⟩
    obtain ⟨_, f1⟩ := fix j dj e1
    obtain ⟨_, f2⟩ := fix k dk e2
    exact g.dist j k _ _ b f1 f2 e3 e4
def mPutD (i : Nat) (mk mv : DE) : DS := fun env => mv env >>= fun d => mk env >>= fun k => match env[i]? with
  | some (some (.own (.dct t kvs))) => if keyOk t k && decide (kvs.length < sizeLine) then .ret (.nx, env.set i (some (.own (.dct t (putD kvs k d))))) else .fail
  | _ => .fail
theorem qputD (i : Nat) {x : Str} {np tpos : Pos} (hu : X.A.units + 1 < cLine) (hk : QB S X b mk) (hv' : QE S X e mv) (hN : X.N[i]? = some x := by rfl) (hv : Vis X.env.scope x := by first | exact Or.inl rfl | exact Or.inr (Or.inl rfl) | exact Or.inr (Or.inr rfl)) (hd : (x == ("__debug__" : Str)) = false := by decide)
    (hcd : (x == ("__classdict__" : Str)) = false := by decide) (hs : swapsWith e (some (.Subscript (.Name x np) b tpos)) pos.line X.env = pure false := by rfl) : QS S X (.Assign [.Subscript (.Name x np) b tpos] e pos) (mPutD i mk mv) :=
  ps_weak (ps_dput hu (pe_var hN hv hd hcd) hk hv' hs) fun D' σ H ⟨G, F, env, g, q⟩ => by
    refine ⟨G, F, env, g, M.wp_mono (M.wpb q) fun d q v G1 F1 H1 e1 g1 r1 => ?_⟩
    obtain ⟨t, kvs, e⟩ : ∃ t kvs, env[i]? = some (some (.own (.dct t kvs))) := wp_det (M.wpb q) fun a h => by
      split at h
      · rename_i t kvs e; exact ⟨t, kvs, e⟩
      · exact h.elim
    obtain ⟨a, ha', _⟩ := g1.slot i _ e
    have q' := M.wpb q
    rw [e] at q'
    refine ⟨.ref a, ha', G1, F1, env, g1, M.wp_mono q' fun k q u G2 F2 H2 e2 g2 r2 => ?_⟩
    simp only at q
    split at q
    · rename_i hc
      rw [Bool.and_eq_true, decide_eq_true_eq] at hc
      obtain ⟨b, b1, b2, b3, b4, ow⟩ := g2.slot i _ e
      rw [ha'] at b1
      cases b1
      have r2 := r2.rp g2 (keyOk_mut hc.1)
      cases t with
      | false =>
        obtain ⟨es, o1, o2, o3⟩ := ow
        obtain ⟨kk, k1, rfl⟩ := key_of_isKey hc.1 r2
        have n := o2.len
        have nz : es.length < sizeLine := by omega
        refine ⟨a, _, rfl, .inl ⟨es, kk, o1, rfl, nz, rfl⟩, q _ G2 F2 _ (e1.trans e2) (g2.ownPut e ha' ⟨_, upd_same, o2.put k1 (r1.mono e2.f), ?_⟩)⟩
        have := putK_le es kk v
        omega
      | true =>
        cases k with
        | tup ds =>
          cases r2 with
          | tup f1 f2 f3 =>
            obtain ⟨es, o1, o2, o3⟩ := ow
            obtain ⟨ks, k1, rfl⟩ := keys_of_all hc.1 f2
            have n := o2.len
            have nz : es.length < sizeLine := by omega
            refine ⟨a, _, rfl, .inr ⟨es, ks, _, o1, rfl, g2.fh _ _ f1, nz, rfl⟩, q _ G2 F2 _ (e1.trans e2) (g2.ownPut e ha' ⟨_, upd_same, o2.put k1 (r1.mono e2.f), ?_⟩)⟩
            have := putK_le es ks v
            omega
        | _ => cases hc.1
    · exact q.elim
def mGet2 (mo mk mx : DE) : DE := fun env => mo env >>= fun o => match o with
  | .dct t kvs => mk env >>= fun k => mx env >>= fun x => if keyOk t k then .ret ((valD kvs k).getD x) else .fail
  | _ => .fail
theorem isD_of {t : Bool} {kvs : List (D × D)} (g : Good S G F σ H env) (r1 : RdB S F σ env (.dct t kvs) v) : ∃ a, v = .ref a ∧ IsD H a := by
  cases t with
  | false => obtain ⟨p, es, rfl, h1, _⟩ := r1.dctK g; exact ⟨p, rfl, .inl ⟨es, h1⟩⟩
  | true => obtain ⟨p, es, rfl, h1, _⟩ := r1.dctT g; exact ⟨p, rfl, .inr ⟨es, h1⟩⟩
theorem qget2 {o : Expr} {apos cpos : Pos} (hu : X.A.units + 1 < cLine) (ho : QB S X o m) (hk : QB S X a ma) (hx : QE S X b mb) (hbase : attributeBase o "get" X.env (eval o X.env) = eval o X.env := by rfl)
    (hfew : ((backTo cpos (starEach [a, b] X.env)).all (fun x => !x.1) && (backToKw cpos (keywordEach [] X.env)).all (fun x => x.1.isSome)
      && decide (([a, b] : List Expr).length + ([] : List Keyword).length + (if ([] : List Keyword).isEmpty then 0 else 1) < 30)) = true := by rfl)
    (hline : (apos.endLine == cpos.line) = true := by rfl) (htr : backTo cpos (starEach [a, b] X.env) = [(false, eval a X.env), (false, eval b X.env)] := by rfl) : QE S X (.Call (.Attribute o "get" apos) [a, b] [] cpos) (mGet2 m ma mb) :=
  pe_weak (pe_dget2 hu ho hk hx ⟨hbase, hfew, hline, htr⟩) fun σ H Q ⟨G, F, env, g, q⟩ => ⟨G, F, env, g, M.wp_mono (M.wpb q) fun d q v G1 F1 H1 e1 g1 r1 => by
    cases d with
    | dct t kvs =>
      obtain ⟨a, rfl, hd⟩ := isD_of g1 r1
      refine ⟨a, rfl, hd, G1, F1, env, g1, M.wp_mono (M.wpb q) fun k q u G2 F2 H2 e2 g2 r2 => ⟨G2, F2, env, g2, M.wp_mono (M.wpb q) fun x q z G3 F3 H3 e3 g3 r3 => ?_⟩⟩
      split at q
      · obtain ⟨a', ov, ea, dg, _, ro⟩ := dget_of g3 (r1.mono (e2.f.trans e3.f)) (r2.mono e3.f) (by assumption)
        cases ea
        refine ⟨ov, dg, (post_shift (e1.trans (e2.trans e3)) q).now g3 ?_⟩
        cases ov with
        | none =>
          cases hh : valD kvs k with
          | none => exact r3
          | some w => rw [hh] at ro; exact ro.elim
        | some w =>
          cases hh : valD kvs k with
          | none => rw [hh] at ro; exact ro.elim
          | some y => rw [hh] at ro; exact ro
      · exact q.elim
    | _ => exact q.elim⟩
/-! ### range with a step, zip -/
def rgD3 (a c : Int) (n : Nat) : List D := (List.range n).map fun i => D.int (a + (i : Nat) * c)
theorem its_rng3 {P : Hp → L2.St → DEnv → Prop} {a c : Int} {n : Nat} : ItsD S (Itc a c n) P (rgD3 a c n) where
  go := fun i G2 F2 σ2 H2 env2 hp g hi => by
    unfold rgD3 at hi
    rw [List.length_map, List.length_range] at hi
    exact hi
  stop := fun i G2 F2 σ2 H2 env2 hp g hi => by
    unfold rgD3 at hi
    rw [List.length_map, List.length_range] at hi
    exact hi
  yld := fun i G2 F2 σ2 H2 env2 v H3 d hp g hd y => by
    obtain ⟨e, ev⟩ := y
    subst e ev
    unfold rgD3 at hd
    rw [List.getElem?_map] at hd
    cases hr : (List.range n)[i]? with
    | none => rw [hr] at hd; cases hd
    | some j =>
      rw [hr] at hd
      obtain ⟨hl, e⟩ := List.getElem?_eq_some_iff.mp hr
      rw [List.getElem_range] at e
      subst e
      cases hd
      exact ⟨G2, F2, Ext.refl _ _, g, .int _⟩
/-- only steps by -1 are told -/
def iRg3 (ma mb mc : DE) : DI := fun env => ma env >>= fun x => mb env >>= fun y => mc env >>= fun z => asI x >>= fun i => asI y >>= fun j => asI z >>= fun k => if decide (k = -1) && (rgOk j i) then .ret (rgD3 i (-1) (i - j).toNat) else .fail
theorem qi_rg3 {I : IM} {tg : Expr} (hg : Gl X "range") (hm : X.mg "range" = none) (ha : QB S X a ma) (hb : QB S X b mb) (hc : QB S X c mc) (n1 : starEach [a, b, c] X.env = (false, eval a X.env) :: starEach [b, c] X.env := by rfl) (n2 : starEach [b, c] X.env = (false, eval b X.env) :: starEach [c] X.env := by rfl)
    (n3 : starEach [c] X.env = (false, eval c X.env) :: starEach [] X.env := by rfl) (hpl : (backTo pos (starEach [b, c] X.env)).any (·.1) = false := by rfl) : QI I S X tg (.Call (.Name "range" pp) [a, b, c] [] pos) (iRg3 ma mb mc) :=
  pi_weak (pi_range3 hg hm (pa_cons ha (pa_cons hb (pa_cons hc pa_nil n3) n2) n1) n1 hpl) fun σ H R ⟨G, F, env, g, ok, q⟩ => ⟨G, F, env, g, M.wp_mono (M.wpb q) fun d q v G1 F1 H1 e1 g1 r1 => ⟨G1, F1, env, g1, M.wp_mono (M.wpb q) fun d2 q v2 G2 F2 H2 e2 g2 r2 => ⟨G2, F2, env, g2, M.wp_mono (M.wpb q) fun d3 q v3 G3 F3 H3 e3 g3 r3 => by
    obtain ⟨i, ei, q1⟩ := asI_wp (M.wpb q)
    obtain ⟨j, ej, q2⟩ := asI_wp (M.wpb q1)
    obtain ⟨k, ek, q3⟩ := asI_wp (M.wpb q2)
    subst ei ej ek
    obtain rfl := r1.int g1
    obtain rfl := r2.int g2
    obtain rfl := r3.int g3
    split at q3
    · rename_i hc
      rw [Bool.and_eq_true, decide_eq_true_eq] at hc
      obtain ⟨rfl, hc⟩ := hc
      obtain ⟨b1, b2, b3, b4, b5⟩ := rgOk_iff hc
      refine ⟨i, j, -1, _, rfl, RgC.neg b3 b4 b1 b2, q3 _ G3 F3 H3 (e1.trans (e2.trans e3)) g3 its_rng3 ?_⟩
      unfold rgD3
      rw [List.length_map, List.length_range, sizeLine_eq]
      exact b5
    · exact q3.elim⟩⟩⟩
def zipD : List D → List D → List D
  | a :: as, b :: bs => .tup [a, b] :: zipD as bs
  | _, _ => []
theorem zipD_len : ∀ as bs : List D, (zipD as bs).length = min as.length bs.length
  | [], _ => by simp [zipD]
  | _ :: _, [] => by simp [zipD]
  | a :: as, b :: bs => by simp [zipD, zipD_len as bs]
theorem zipD_get : ∀ (as bs : List D) (i : Nat) (x : D), (zipD as bs)[i]? = some x → ∃ a b, as[i]? = some a ∧ bs[i]? = some b ∧ x = .tup [a, b]
  | [], _, i, x, h => by simp [zipD] at h
  | _ :: _, [], i, x, h => by simp [zipD] at h
  | a :: as, b :: bs, 0, x, h => by simp [zipD] at h; exact ⟨a, b, rfl, rfl, h.symm⟩
  | a :: as, b :: bs, i + 1, x, h => by
    obtain ⟨u, w, h1, h2, h3⟩ := zipD_get as bs i x (by simpa [zipD] using h)
    exact ⟨u, w, by simpa using h1, by simpa using h2, h3⟩
theorem its_zip {I : IM} (O : IMOk I) {K : PySem.W.Frag} {xs ys : List D} {a b : Addr} (ok : I.ok env = true) (r : I.rd S F' σ env (.lst xs) (.ref a)) (r' : I.rd S F' σ env (.lst ys) (.ref b)) : ItsD S (Itz K a b) (I.P F' σ env) (zipD xs ys) where
  go := fun i G2 F2 σ2 H2 env2 hp g hi => by
    obtain ⟨p, vs, e, h1, l1, _⟩ := (O.toB (O.keep ok hp r)).lst g
    cases e
    obtain ⟨p', us, e, h2, l2, _⟩ := (O.toB (O.keep ok hp r')).lst g
    cases e
    rw [zipD_len, l1.len, l2.len] at hi
    have i1 : i < vs.length := by omega
    have i2 : i < us.length := by omega
    exact ⟨vs, us, vs[i], us[i], .of h1, .of h2, by simp [i1], by simp [i2]⟩
  stop := fun i G2 F2 σ2 H2 env2 hp g hi => by
    obtain ⟨p, vs, e, h1, l1, _⟩ := (O.toB (O.keep ok hp r)).lst g
    cases e
    obtain ⟨p', us, e, h2, l2, _⟩ := (O.toB (O.keep ok hp r')).lst g
    cases e
    rw [zipD_len, l1.len, l2.len] at hi
    exact ⟨vs, us, .of h1, .of h2, by omega⟩
  yld := fun i G2 F2 σ2 H2 env2 x H3 d hp g hd y => by
    obtain ⟨p, vs, e, h1, l1, _⟩ := (O.toB (O.keep ok hp r)).lst g
    cases e
    obtain ⟨p', us, e, h2, l2, _⟩ := (O.toB (O.keep ok hp r')).lst g
    cases e
    obtain ⟨T, y1, y2, rfl, nT, rfl, f1, f2⟩ := y
    obtain ⟨d1, d2, hd1, hd2, rfl⟩ := zipD_get xs ys i d hd
    obtain ⟨v1, hv1, rv1⟩ := l1.get hd1
    obtain ⟨v2, hv2, rv2⟩ := l2.get hd2
    have e1 := f1 vs (.of h1)
    have e2 := f2 us (.of h2)
    rw [hv1] at e1
    rw [hv2] at e2
    cases e1
    cases e2
    obtain ⟨x3, g3⟩ := g.newFrz nT (.tup [y1, y2])
    exact ⟨_, _, x3, g3, .tup upd_same (.cons (rv1.mono x3.f) (.cons (rv2.mono x3.f) .nil)) (by show 2 ≤ sizeLine; decide)⟩
def iZipD (m m' : DE) : DI := fun env => m env >>= fun x => m' env >>= fun y => match x, y with
  | .lst xs, .lst ys => .ret (zipD xs ys)
  | _, _ => .fail
theorem qi_zip {I : IM} (O : IMOk I) (O2 : ∀ {S : SA} {F F2 : Hp} {σ : L2.St} {env : DEnv} {d : D} {v : V}, Sub F F2 → I.rd S F σ env d v → I.rd S F2 σ env d v) {tpos : Pos} {elts : List Expr} {kk : Nat} (hg : Gl X "zip") (hm : X.mg "zip" = none) (ha : QX I S X a ma) (hb : QX I S X b mb)
    (n1 : starEach [a, b] X.env = (false, eval a X.env) :: starEach [b] X.env := by rfl) (n2 : starEach [b] X.env = (false, eval b X.env) :: starEach [] X.env := by rfl) (hpl : (backTo pos (starEach [b] X.env)).any (·.1) = false := by rfl) :
    QI I S X (.Tuple elts kk tpos) (.Call (.Name "zip" pp) [a, b] [] pos) (iZipD ma mb) :=
  pi_weak (pi_zip hg hm (pa_cons ha (pa_cons hb pa_nil n2) n1) n1 hpl) fun σ H R ⟨G, F, env, g, ok, q⟩ => ⟨G, F, env, g, M.wp_mono (M.wpb q) fun d q v G1 F1 H1 e1 g1 r1 => ⟨G1, F1, env, g1, M.wp_mono (M.wpb q) fun d2 q v2 G2 F2 H2 e2 g2 r2 => by
    cases d with
    | lst xs =>
      cases d2 with
      | lst ys =>
        have r1 := O2 e2.f r1
        obtain ⟨p, vs, rfl, h1, l1, z1⟩ := (O.toB r1).lst g2
        obtain ⟨p', us, rfl, h2, l2, z2⟩ := (O.toB r2).lst g2
        exact ⟨p, p', vs, us, rfl, .of h1, .of h2, q _ G2 F2 H2 (e1.trans e2) g2 (its_zip O ok r1 r2) (by rw [zipD_len, l1.len, l2.len]; omega)⟩
      | _ => exact q.elim
    | _ => exact q.elim⟩⟩
end
end DL

set_option Elab.async false
set_option linter.all false
set_option maxRecDepth 100000
/-! DL11: the order of trees that are alike; sorted. -/
namespace DL
open PySem PySem.Spec L2
open PyProof.Rows hiding St

mutual
def D.alk : D → D → Bool
  | .non, d => match d with
    | .non => true
    | _ => false
  | .int _, d => match d with
    | .int _ => true
    | _ => false
  | .str _, d => match d with
    | .str _ => true
    | _ => false
  | .tup xs, d => match d with
    | .tup ys => D.alkL xs ys
    | _ => false
  | .lst xs, d => match d with
    | .lst ys => D.alkL xs ys
    | _ => false
  | .bl _, _ => false
  | .dct _ _, _ => false
  | .stt, _ => false
def D.alkL : List D → List D → Bool
  | [], _ => true
  | x :: xs, ds => match ds with
    | [] => true
    | y :: ys => D.alk x y && D.alkL xs ys
end
def natsLt : List Nat → List Nat → Bool
  | [], [] => false
  | [], _ :: _ => true
  | _ :: _, [] => false
  | a :: as, b :: bs => decide (a < b) || (decide (a = b) && natsLt as bs)
mutual
def D.lt : D → D → Bool
  | .int a, d => match d with
    | .int b => decide (a < b)
    | _ => false
  | .str a, d => match d with
    | .str b => natsLt a.cps.toList b.cps.toList
    | _ => false
  | .tup xs, d => match d with
    | .tup ys => D.ltL xs ys
    | _ => false
  | .lst xs, d => match d with
    | .lst ys => D.ltL xs ys
    | _ => false
  | .non, _ => false
  | .bl _, _ => false
  | .dct _ _, _ => false
  | .stt, _ => false
def D.ltL : List D → List D → Bool
  | [], ds => match ds with
    | [] => false
    | _ :: _ => true
  | x :: xs, ds => match ds with
    | [] => false
    | y :: ys => if D.beq x y then D.ltL xs ys else D.lt x y
end
theorem natsLt_eq : ∀ a b : List Nat, natsLt a b = decide (a < b)
  | [], [] => by simp [natsLt]
  | [], b :: bs => by simp [natsLt]
  | a :: as, [] => by simp [natsLt]
  | a :: as, b :: bs => by
    rw [natsLt, natsLt_eq as bs]
    simp only [List.cons_lt_cons_iff]
    by_cases h : a < b
    · simp [h]
    · by_cases e : a = b
      · subst e; simp
      · simp [h, e]
theorem natsLt_tri : ∀ a b : List Nat, natsLt a b = false → natsLt b a = false → a = b
  | [], [], _, _ => rfl
  | [], b :: bs, h, _ => by simp [natsLt] at h
  | a :: as, [], _, h => by simp [natsLt] at h
  | a :: as, b :: bs, h, h' => by
    simp only [natsLt, Bool.or_eq_false_iff, decide_eq_false_iff_not] at h h'
    have e : a = b := by omega
    subst e
    simp only [decide_true, Bool.true_and] at h h'
    rw [natsLt_tri as bs h.2 h'.2]
mutual
theorem D.alk_alike : ∀ (d e : D), D.alk d e = true → PySem.W.alike d.py e.py = true
  | .non, e, h => by cases e <;> simp [D.alk] at h; simp [D.py, PySem.W.alike]
  | .int i, e, h => by cases e <;> simp [D.alk] at h; simp [D.py, PySem.W.alike]
  | .str i, e, h => by cases e <;> simp [D.alk] at h; simp [D.py, PySem.W.alike]
  | .bl i, e, h => by simp [D.alk] at h
  | .dct _ i, e, h => by simp [D.alk] at h
  | .stt, e, h => by simp [D.alk] at h
  | .tup xs, e, h => by
    cases e with
    | tup ys => simp only [D.py, PySem.W.alike]; exact D.alkL_alike xs ys (by simpa [D.alk] using h)
    | _ => simp [D.alk] at h
  | .lst xs, e, h => by
    cases e with
    | lst ys => simp only [D.py, PySem.W.alike]; exact D.alkL_alike xs ys (by simpa [D.alk] using h)
    | _ => simp [D.alk] at h
theorem D.alkL_alike : ∀ (d e : List D), D.alkL d e = true → PySem.W.alikeAll (D.pyL d) (D.pyL e) = true
  | [], e, _ => by cases e <;> simp [D.pyL, PySem.W.alikeAll]
  | x :: xs, [], _ => by simp [D.pyL, PySem.W.alikeAll]
  | x :: xs, y :: ys, h => by
    simp only [D.alkL, Bool.and_eq_true] at h
    simp only [D.pyL, PySem.W.alikeAll, D.alk_alike x y h.1, D.alkL_alike xs ys h.2, Bool.and_self]
end
theorem dataLt_all (x y : PyData) (xs ys : List PyData) (h : PySem.W.alike x y = true) : PyProof.Rows.lexLt itemOrd (PySem.W.keyToksAll (x :: xs)) (PySem.W.keyToksAll (y :: ys)) = if PyData.eqv x y then PyProof.Rows.lexLt itemOrd (PySem.W.keyToksAll xs) (PySem.W.keyToksAll ys) else PySem.W.dataLt x y := by
  cases e : PyData.eqv x y with
  | true => rw [if_pos rfl]; exact PySem.W.dataLt_all_yes h e
  | false => rw [if_neg (by simp)]; exact PySem.W.dataLt_all_no h e
mutual
theorem D.lt_data : ∀ (n : Nat) (d e : D), d.pl n = true → e.pl n = true → D.alk d e = true → PySem.W.dataLt d.py e.py = D.lt d e
  | n, .non, e, _, _, h => by
    cases e <;> simp [D.alk] at h
    simp only [D.py, D.lt, PySem.W.dataLt, PySem.W.keyToks]; rfl
  | n, .int i, e, _, _, h => by
    cases e <;> simp [D.alk] at h
    simp only [D.py, D.lt]; exact PySem.W.dataLt_int _ _
  | n, .str i, e, _, _, h => by
    cases e <;> simp [D.alk] at h
    simp only [D.py, D.lt]; rw [PySem.W.dataLt_str, natsLt_eq]
  | n, .bl i, e, _, _, h => by simp [D.alk] at h
  | n, .dct _ i, e, _, _, h => by simp [D.alk] at h
  | n, .stt, e, _, _, h => by simp [D.alk] at h
  | 0, .tup xs, e, h, _, _ => by simp [D.pl] at h
  | 0, .lst xs, e, h, _, _ => by simp [D.pl] at h
  | n + 1, .tup xs, e, h1, h2, h => by
    cases e with
    | tup ys => simp only [D.py, D.lt]; rw [PySem.W.dataLt_tuple]; exact D.ltL_data n xs ys (by simpa [D.pl] using h1) (by simpa [D.pl] using h2) (by simpa [D.alk] using h)
    | _ => simp [D.alk] at h
  | n + 1, .lst xs, e, h1, h2, h => by
    cases e with
    | lst ys => simp only [D.py, D.lt]; rw [PySem.W.dataLt_list]; exact D.ltL_data n xs ys (by simpa [D.pl] using h1) (by simpa [D.pl] using h2) (by simpa [D.alk] using h)
    | _ => simp [D.alk] at h
theorem D.ltL_data : ∀ (n : Nat) (d e : List D), D.plL n d = true → D.plL n e = true → D.alkL d e = true → PyProof.Rows.lexLt itemOrd (PySem.W.keyToksAll (D.pyL d)) (PySem.W.keyToksAll (D.pyL e)) = D.ltL d e
  | n, [], [], _, _, _ => by simp only [D.pyL, D.ltL]; exact lex_irrefl _
  | n, [], y :: ys, _, _, _ => by
    simp only [D.pyL, D.ltL, PySem.W.keyToksAll]
    rw [lex_diff (O := itemOrd) (by simp)]; rfl
  | n, x :: xs, [], _, _, _ => by
    simp only [D.pyL, D.ltL, PySem.W.keyToksAll]
    rw [lex_diff (O := itemOrd) (by simp)]; rfl
  | n, x :: xs, y :: ys, h1, h2, h => by
    simp only [D.plL, Bool.and_eq_true] at h1 h2
    simp only [D.alkL, Bool.and_eq_true] at h
    simp only [D.pyL, D.ltL]
    rw [dataLt_all _ _ _ _ (D.alk_alike x y h.1), D.eqv_beq n x y h1.1 h2.1, D.ltL_data n xs ys h1.2 h2.2 h.2, D.lt_data n x y h1.1 h2.1 h.1]
end
theorem D.beq_self (n : Nat) (d : D) (h : d.pl n = true) : D.beq d d = true := (D.beq_eq n d d h).mpr rfl
theorem D.beq_comm {n : Nat} {d e : D} (h1 : d.pl n = true) (h2 : e.pl n = true) : D.beq d e = D.beq e d := by
  cases h : D.beq d e with
  | true =>
    have := (D.beq_eq n d e h1).mp h
    subst this
    exact h.symm
  | false =>
    cases h' : D.beq e d with
    | false => rfl
    | true =>
      have := (D.beq_eq n e d h2).mp h'
      subst this
      rw [h'] at h; cases h
mutual
theorem D.tri : ∀ (n : Nat) (d e : D), d.pl n = true → e.pl n = true → D.alk d e = true → D.lt d e = false → D.lt e d = false → d = e
  | n, .non, e, _, _, h, _, _ => by cases e <;> simp [D.alk] at h; rfl
  | n, .int i, e, _, _, h, a, b => by
    cases e <;> simp [D.alk] at h
    simp only [D.lt, decide_eq_false_iff_not] at a b
    congr 1; omega
  | n, .str i, e, _, _, h, a, b => by
    cases e <;> simp [D.alk] at h
    simp only [D.lt] at a b
    congr 1
    exact PySem.W.str_of_cps (natsLt_tri _ _ a b)
  | n, .bl i, e, _, _, h, _, _ => by simp [D.alk] at h
  | n, .dct _ i, e, _, _, h, _, _ => by simp [D.alk] at h
  | n, .stt, e, _, _, h, _, _ => by simp [D.alk] at h
  | 0, .tup xs, e, h, _, _, _, _ => by simp [D.pl] at h
  | 0, .lst xs, e, h, _, _, _, _ => by simp [D.pl] at h
  | n + 1, .tup xs, e, h1, h2, h, a, b => by
    cases e with
    | tup ys => congr 1; exact D.triL n xs ys (by simpa [D.pl] using h1) (by simpa [D.pl] using h2) (by simpa [D.alk] using h) (by simpa [D.lt] using a) (by simpa [D.lt] using b)
    | _ => simp [D.alk] at h
  | n + 1, .lst xs, e, h1, h2, h, a, b => by
    cases e with
    | lst ys => congr 1; exact D.triL n xs ys (by simpa [D.pl] using h1) (by simpa [D.pl] using h2) (by simpa [D.alk] using h) (by simpa [D.lt] using a) (by simpa [D.lt] using b)
    | _ => simp [D.alk] at h
theorem D.triL : ∀ (n : Nat) (d e : List D), D.plL n d = true → D.plL n e = true → D.alkL d e = true → D.ltL d e = false → D.ltL e d = false → d = e
  | n, [], [], _, _, _, _, _ => rfl
  | n, [], y :: ys, _, _, _, a, _ => by simp [D.ltL] at a
  | n, x :: xs, [], _, _, _, _, b => by simp [D.ltL] at b
  | n, x :: xs, y :: ys, h1, h2, h, a, b => by
    simp only [D.plL, Bool.and_eq_true] at h1 h2
    simp only [D.alkL, Bool.and_eq_true] at h
    simp only [D.ltL] at a b
    rw [D.beq_comm h2.1 h1.1] at b
    cases e : D.beq x y with
    | true =>
      rw [e, if_pos rfl] at a b
      rw [(D.beq_eq n x y h1.1).mp e, D.triL n xs ys h1.2 h2.2 h.2 a b]
    | false =>
      rw [e, if_neg (by simp)] at a b
      have := D.tri n x y h1.1 h2.1 h.1 a b
      subst this
      rw [D.beq_self n x h1.1] at e; cases e
end
/-! ### what can be sorted -/
def D.tupE : D → Bool
  | .tup [] => true
  | _ => false
def srtOk (xs : List D) : Bool := D.plL 60 xs && xs.all (fun x => xs.all fun y => D.alk x y) && xs.all (fun x => !D.tupE x && match x with | .non => false | _ => true)
def insD (x : D) : List D → List D
  | [] => [x]
  | y :: r => if D.lt y x then y :: insD x r else x :: y :: r
def sortD : List D → List D
  | [] => []
  | x :: xs => insD x (sortD xs)
theorem insD_perm (x : D) : ∀ l : List D, (insD x l).Perm (x :: l)
  | [] => List.Perm.refl _
  | y :: r => by
    unfold insD
    split
    · exact ((insD_perm x r).cons y).trans (List.Perm.swap x y r)
    · exact List.Perm.refl _
theorem sortD_perm : ∀ l : List D, (sortD l).Perm l
  | [] => List.Perm.refl _
  | x :: xs => (insD_perm x (sortD xs)).trans ((sortD_perm xs).cons x)
theorem swoD : SrtO.Swo fun x y : D => PySem.W.dataLt x.py y.py := by
  refine ⟨fun x y h => ?_, fun x y z h1 h2 => ?_⟩
  · cases e : PySem.W.dataLt y.py x.py with
    | false => rfl
    | true =>
      have := lex_trans _ _ _ h e
      rw [lex_irrefl] at this; cases this
  · cases e : PySem.W.dataLt z.py x.py with
    | false => rfl
    | true =>
      rcases lex_negTrans _ (PySem.W.keyToks y.py) _ e with h | h
      · have : PySem.W.dataLt z.py y.py = true := h
        rw [h2] at this; cases this
      · have : PySem.W.dataLt y.py x.py = true := h
        rw [h1] at this; cases this
theorem srtOk_pl {xs : List D} (h : srtOk xs = true) : ∀ x ∈ xs, x.pl 60 = true := by
  have h0 : D.plL 60 xs = true := by
    unfold srtOk at h
    simp only [Bool.and_eq_true] at h
    exact h.1.1
  clear h
  induction xs with
  | nil => intro x hx; cases hx
  | cons y ys ih =>
    simp only [D.plL, Bool.and_eq_true] at h0
    intro x hx
    rcases List.mem_cons.mp hx with rfl | hx
    · exact h0.1
    · exact ih h0.2 x hx
theorem srtOk_alk {xs : List D} (h : srtOk xs = true) : ∀ x ∈ xs, ∀ y ∈ xs, D.alk x y = true := by
  unfold srtOk at h
  simp only [Bool.and_eq_true, List.all_eq_true] at h
  exact fun x hx y hy => h.1.2 x hx y hy
theorem srtOk_no {xs : List D} (h : srtOk xs = true) : ∀ x ∈ xs, x ≠ .non ∧ x ≠ .tup [] := by
  unfold srtOk at h
  simp only [Bool.and_eq_true, List.all_eq_true] at h
  intro x hx
  have := h.2 x hx
  constructor
  · rintro rfl; simp at this
  · rintro rfl; simp [D.tupE] at this
theorem srtOk_lt {xs : List D} (h : srtOk xs = true) {x y : D} (hx : x ∈ xs) (hy : y ∈ xs) : PySem.W.dataLt x.py y.py = D.lt x y :=
  D.lt_data 60 x y (srtOk_pl h x hx) (srtOk_pl h y hy) (srtOk_alk h x hx y hy)
/-- sorted by dataLt -/
theorem insD_srtd {x : D} {l : List D} (hl : SrtO.Srtd (fun x y : D => PySem.W.dataLt x.py y.py) l) (he : ∀ y ∈ l, D.lt y x = PySem.W.dataLt y.py x.py) : SrtO.Srtd (fun x y : D => PySem.W.dataLt x.py y.py) (insD x l) := by
  induction l with
  | nil => exact SrtO.srtd_one x
  | cons y r ih =>
    unfold insD
    have e := he y List.mem_cons_self
    split
    · rename_i hlt
      rw [e] at hlt
      refine List.pairwise_cons.mpr ⟨fun z hz => ?_, ih (List.pairwise_cons.mp hl).2 fun z hz => he z (List.mem_cons_of_mem _ hz)⟩
      rcases List.mem_cons.mp ((insD_perm x r).mem_iff.mp hz) with rfl | hz
      · exact swoD.asym _ _ hlt
      · exact SrtO.srtd_head hl z hz
    · rename_i hlt
      rw [e] at hlt
      have hlt : PySem.W.dataLt y.py x.py = false := by simpa using hlt
      exact List.pairwise_cons.mpr ⟨fun z hz => swoD.le_all hl hlt z hz, hl⟩
theorem sortD_srtd {xs : List D} (h : srtOk xs = true) : ∀ l : List D, (∀ x ∈ l, x ∈ xs) → SrtO.Srtd (fun x y : D => PySem.W.dataLt x.py y.py) (sortD l)
  | [], _ => List.Pairwise.nil
  | x :: l, hm => insD_srtd (sortD_srtd h l fun z hz => hm z (List.mem_cons_of_mem _ hz)) fun y hy =>
      (srtOk_lt h (hm y (List.mem_cons_of_mem _ ((sortD_perm l).mem_iff.mp hy))) (hm x List.mem_cons_self)).symm
theorem srtd_unique {xs : List D} (h : srtOk xs = true) : ∀ l m : List D, SrtO.Srtd (fun x y : D => PySem.W.dataLt x.py y.py) l → SrtO.Srtd (fun x y : D => PySem.W.dataLt x.py y.py) m → l.Perm m → (∀ x ∈ l, x ∈ xs) → l = m
  | [], m, _, _, p, _ => by rw [List.nil_perm.mp p]
  | x :: l, m, h1, h2, p, hm => by
    cases m with
    | nil => exact absurd p.length_eq (by simp)
    | cons y m =>
      have hx : x ∈ y :: m := p.mem_iff.mp List.mem_cons_self
      have hy : y ∈ x :: l := p.mem_iff.mpr List.mem_cons_self
      have e : x = y := by
        have hxx := hm x List.mem_cons_self
        have hyy := hm y hy
        refine D.tri 60 x y (srtOk_pl h x hxx) (srtOk_pl h y hyy) (srtOk_alk h x hxx y hyy) ?_ ?_
        · rw [← srtOk_lt h hxx hyy]
          rcases List.mem_cons.mp hx with e | hx
          · rw [e]; exact swoD.refl y
          · exact SrtO.srtd_head h2 x hx
        · rw [← srtOk_lt h hyy hxx]
          rcases List.mem_cons.mp hy with e | hy
          · rw [e]; exact swoD.refl x
          · exact SrtO.srtd_head h1 y hy
      subst e
      rw [srtd_unique h l m (List.pairwise_cons.mp h1).2 (List.pairwise_cons.mp h2).2 (List.Perm.cons_inv p) fun z hz => hm z (List.mem_cons_of_mem _ hz)]

/-! ### sorted, of lists -/
def dSorted : List D → M D
  | [.lst xs] => if srtOk xs then .ret (.lst (sortD xs)) else .fail
  | _ => .fail
theorem D.pyL_map : ∀ ds : List D, D.pyL ds = ds.map D.py
  | [] => rfl
  | d :: ds => by rw [D.pyL, D.pyL_map ds, List.map_cons]
def rSortedD (K : PySem.W.Frag) : List V → Hp → VK → Prop := fun vs H Q => ∃ (a : Addr) (ys : List V) (ds : List D), vs = [V.ref a] ∧ SqL K H a ys ∧ DpAll K H ys (D.pyL ds) ∧ srtOk ds = true ∧
  ∀ (ps : List (V × D)) (p : Addr), ps.Perm (ys.zip ds) → ps.map (·.2) = sortD ds → H p = none → Q (.ref p) (upd H p (.lst (ps.map (·.1))))
theorem srt_alike {ds : List D} (h : srtOk ds = true) : PySem.W.AllAlike (ds.map D.py) := by
  intro d hd d' hd'
  obtain ⟨x, hx, rfl⟩ := List.mem_map.mp hd
  obtain ⟨y, hy, rfl⟩ := List.mem_map.mp hd'
  exact D.alk_alike x y (srtOk_alk h x hx y hy)
theorem srt_sortable {ds : List D} (h : srtOk ds = true) : PySem.W.Sortable (ds.map D.py) := by
  cases ds with
  | nil => exact .inl fun d hd => absurd hd (by simp)
  | cons d0 ds0 =>
    by_cases ht : ∃ xs, d0 = .tup xs
    · obtain ⟨xs, rfl⟩ := ht
      refine .inl fun d hd => ?_
      obtain ⟨y, hy, rfl⟩ := List.mem_map.mp hd
      have a := srtOk_alk h _ List.mem_cons_self y hy
      have b := (srtOk_no h y hy).2
      cases y <;> simp [D.alk] at a
      rename_i zs
      cases zs with
      | nil => exact absurd rfl b
      | cons z zs => exact ⟨z.py, D.pyL zs, by simp [D.py, D.pyL]⟩
    · refine .inr fun d hd => ?_
      obtain ⟨y, hy, rfl⟩ := List.mem_map.mp hd
      have a := srtOk_alk h _ List.mem_cons_self y hy
      have b := (srtOk_no h y hy).1
      cases y <;> cases d0 <;> simp [D.alk] at a b ht <;> simp [D.py]
theorem each_zip {K : PySem.W.Frag} : ∀ {ys : List V} {us : List Value} {ds : List D}, Vals ys us → ys.length = ds.length → PySem.W.EachIs (fun (u : Value) (p : V × D) => RelV p.1 u) us (ys.zip ds)
  | _, _, [], .nil, _ => .nil
  | _, _, [], .cons _ _, h => by simp at h
  | _, _, d :: ds, .nil, h => by simp at h
  | _, _, d :: ds, .cons r t, h => by
    rw [List.zip_cons_cons]
    exact .cons r (each_zip (K := K) t (by simpa using h))
theorem each_reads {h : Heap} : ∀ {ys : List V} {us : List Value} {ds : List D} {as : List Addr}, ReadsAll h us (D.pyL ds) as → ys.length = ds.length → PySem.W.EachIs (fun (u : Value) (p : V × D) => ∃ as, Reads h u p.2.py as) us (ys.zip ds)
  | [], _, [], _, r, _ => by
    have r' : ReadsAll h _ [] _ := r
    cases r'; exact .nil
  | _ :: _, _, [], _, _, h => by simp at h
  | [], _, d :: ds, _, _, h => by simp at h
  | y :: ys, _, d :: ds, _, r, hl => by
    have r' : ReadsAll h _ (d.py :: D.pyL ds) _ := r
    cases r' with
    | cons h1 h2 =>
      rw [List.zip_cons_cons]
      exact .cons ⟨_, h1⟩ (each_reads h2 (by simpa using hl))
theorem each_vals : ∀ {us : List Value} {ps : List (V × D)}, PySem.W.EachIs (fun (u : Value) (p : V × D) => RelV p.1 u) us ps → Vals (ps.map (·.1)) us
  | _, _, .nil => .nil
  | _, _, .cons h t => .cons h (each_vals t)
theorem dpAll_len {K : PySem.W.Frag} {H : Hp} : ∀ {ys : List V} {ds : List PyData}, DpAll K H ys ds → ys.length = ds.length
  | _, _, .nil => rfl
  | _, _, .cons _ t => congrArg (· + 1) (dpAll_len t)
theorem zip_snd {α β : Type} : ∀ (as : List α) (bs : List β), as.length = bs.length → (as.zip bs).map (·.2) = bs
  | [], [], _ => rfl
  | [], _ :: _, h => by simp at h
  | _ :: _, [], h => by simp at h
  | a :: as, b :: bs, h => by rw [List.zip_cons_cons, List.map_cons, zip_snd as bs (by simpa using h)]
theorem zip_fst {α β : Type} : ∀ (as : List α) (bs : List β), as.length = bs.length → (as.zip bs).map (·.1) = as
  | [], [], _ => rfl
  | [], _ :: _, h => by simp at h
  | _ :: _, [], h => by simp at h
  | a :: as, b :: bs, h => by rw [List.zip_cons_cons, List.map_cons, zip_fst as bs (by simpa using h)]
theorem srtd_merge (ds : List D) (bs : List (V × D)) (hb : bs.map (·.2) = ds) (h : srtOk ds = true) : (bs.mergeSort (PySem.W.dataLe false fun p : V × D => p.2.py)).map (·.2) = sortD ds := by
  have e : PySem.W.dataLe false (fun p : V × D => p.2.py) = fun a b => !PySem.W.dataLt b.2.py a.2.py := by
    rw [PySem.W.dataLe_eq] <;> rfl
  have p := List.mergeSort_perm bs (PySem.W.dataLe false fun p : V × D => p.2.py)
  have p2 := (p.map (·.2))
  rw [hb] at p2
  refine srtd_unique h _ _ ?_ (sortD_srtd h ds fun x hx => hx) (p2.trans (sortD_perm ds).symm) fun x hx => p2.mem_iff.mp hx
  have hp : (bs.mergeSort (PySem.W.dataLe false fun p : V × D => p.2.py)).Pairwise (fun a b => PySem.W.dataLe false (fun p : V × D => p.2.py) a b = true) := by
    refine List.pairwise_mergeSort (fun a b c h1 h2 => ?_) (fun a b => ?_) bs
    · rw [e] at h1 h2 ⊢
      simp only [Bool.not_eq_true'] at h1 h2 ⊢
      exact swoD.tr _ _ _ h1 h2
    · rw [e]
      show (!PySem.W.dataLt b.2.py a.2.py || !PySem.W.dataLt a.2.py b.2.py) = true
      cases q : PySem.W.dataLt b.2.py a.2.py with
      | false => rfl
      | true => rw [swoD.asym b.2 a.2 q]; rfl
  refine List.pairwise_map.mpr (hp.imp fun {a b} h => ?_)
  rw [e] at h
  simpa using h
theorem cr_sortedD {X : Cx} (hu : X.A.units + 64 < cLine) : CallR X (.builtin "sorted") (rSortedD X.K) := by
  intro pins s σ H vs us Q I r h
  obtain ⟨a, ys, ds, rfl, hs, hd, ho, q⟩ := h
  obtain ⟨its, rv, hl, hz⟩ := I.list hs
  rw [Vals.ref1 r]
  have hlen : ys.length = ds.length := by rw [dpAll_len hd, D.pyL_map, List.length_map]
  have hb := zip_snd ys ds hlen
  obtain ⟨as, hr⟩ := Dp.readsAll I (D.pyL ds) ys its hd rv
  have hm : (ys.zip ds).map (fun p : V × D => p.2.py) = ds.map D.py := by
    conv => rhs; rw [← hb]
    rw [List.map_map] <;> rfl
  refine PySem.W.sorted_data (enc := fun p : V × D => p.2.py) hl.isList (each_zip (K := X.K) rv hlen) (each_reads hr hlen) (by rw [hm]; exact srt_alike ho) (by rw [hm]; exact srt_sortable ho)
    (by rw [List.length_zip, rv.length]; omega) (fun b hb' => ?_) fun out e1 e2 => ?_
  · have : b.2 ∈ ds := by rw [← hb]; exact List.mem_map.mpr ⟨b, hb', rfl⟩
    have := D.dep 60 b.2 (srtOk_pl ho _ this)
    omega
  · have hp := List.mergeSort_perm (ys.zip ds) (PySem.W.dataLe false fun p : V × D => p.2.py)
    obtain ⟨ep, he'⟩ := PyProof.Rows.sortedAll_at s.heap its out.toArray
    have hl2 : (((ys.zip ds).mergeSort (PySem.W.dataLe false fun p : V × D => p.2.py)).map (·.1)).length ≤ sizeLine := by
      rw [List.length_map, hp.length_eq, List.length_zip, rv.length]; omega
    exact ⟨.ref _, upd H (s.heap.objs.size + 1) (.lst (((ys.zip ds).mergeSort (PySem.W.dataLe false fun p : V × D => p.2.py)).map (·.1))), I.laid (t' := s.toks) (fun _ _ => PyProof.Rows.sortedAll_old) (Nat.le_succ _) ⟨hl2, out, ep, each_vals e2, he'⟩, rfl,
      q _ _ hp (srtd_merge ds _ hb ho) (I.hok.fresh (Nat.le_succ _))⟩
/-- rows in another order -/
theorem RpL.zip_mem {S : SA} {F : Hp} : ∀ {ds : List D} {vs : List V}, RpL S F ds vs → ∀ p ∈ vs.zip ds, Rp S F p.2 p.1
  | _, _, .nil, p, h => by simp at h
  | _, _, .cons r t, p, h => by
    rw [List.zip_cons_cons] at h
    rcases List.mem_cons.mp h with rfl | h
    · exact r
    · exact RpL.zip_mem t p h
theorem RpL.of_mem {S : SA} {F : Hp} : ∀ {ps : List (V × D)}, (∀ p ∈ ps, Rp S F p.2 p.1) → RpL S F (ps.map (·.2)) (ps.map (·.1))
  | [], _ => .nil
  | p :: ps, h => .cons (h p List.mem_cons_self) (RpL.of_mem fun q hq => h q (List.mem_cons_of_mem _ hq))
section
variable {S : SA} {X : Cx}
theorem c_sorted (hu : X.A.units + 64 < cLine) : CallF S X (.builtin "sorted") dSorted := ⟨_, cr_sortedD hu, fun G F σ H env vs ds Q g r q => by
  unfold dSorted at q
  split at q
  · rename_i xs
    split at q
    · rename_i ho
      obtain ⟨v, rfl, r1⟩ := rdb1 r
      obtain ⟨p, ys, rfl, h1, l1, z1⟩ := r1.lst g
      have hd : DpAll X.K H ys (D.pyL xs) := by
        have hpl : D.plL 60 xs = true := by
          unfold srtOk at ho; simp only [Bool.and_eq_true] at ho; exact ho.1.1
        exact (RpL.dp (K := X.K) g.fh 60 xs hpl l1).1
      refine ⟨p, ys, xs, rfl, .of h1, hd, ho, fun ps a hp he hn => ?_⟩
      have hr : RpL S F (sortD xs) (ps.map (·.1)) := by
        rw [← he]
        exact RpL.of_mem fun z hz => l1.zip_mem z (hp.mem_iff.mp hz)
      exact PostF.lst (show PostF S G F σ env Q (.lst (sortD xs)) from q) g hn hr (by rw [List.length_map, hp.length_eq, List.length_zip, l1.len]; omega)
    · exact q.elim
  · exact q.elim⟩
end
end DL

set_option Elab.async false
set_option linter.all false
set_option maxRecDepth 100000
/-! DL12: dict displays: {**d, k: v}. -/
namespace DL
open PySem PySem.Spec L2
open PyProof.Rows hiding St

section
variable {prog : Program} {w : World} {A : Around} {E : Value → Shared → Prop} {s : Shared}
theorem wp_dictPut {K : Type} [DecidableEq K] {knd : KeyKind prog w K} {d : Addr} {kvs : List (K × Value)} {k : K} {key v : Value} {Q : Unit → Shared → Prop} (hkey : knd.is k key = true) (hm : s.heap.DictOf knd d kvs)
    (hQ : ∀ h', h'.DictOf knd d (stored kvs k v) → Heap.SameBut d s.heap h' → Q () { s with heap := h' }) (hsz : kvs.length ≤ sizeLine) :
    wpAny (model prog w) A (dictPut d (knd.hash k) key v) Q E s := by
  obtain ⟨o, es, ep, ho, hc, hd, hk, hp, hn⟩ := hm
  have hes : es.size ≤ sizeLine := by have e1 := hp.length; have e2 : es.toList.length = es.size := by simp
                                      omega
  unfold dictPut
  refine wpAny_bind (wpAny_dictFind_of hkey ho hd hk ?_)
  have hidx : (es.findIdx? fun e => knd.is k e.key) = kvs.findIdx? fun kv => decide (kv.1 = k) := by
    rw [← hp.findIdx k]; obtain ⟨l⟩ := es; simp
  cases hi : es.findIdx? fun e => knd.is k e.key with
  | some i =>
    refine wpAny_updateDict ho hd (hQ _ ⟨_, _, ep, Heap.get?_update_self _ ho (Obj.isFreed_of_dict (Obj.data_mapDict hd _)),
      hc.mapDict _, Obj.data_mapDict hd _, hk.modify _ _, ?_, ?_⟩ (Heap.SameBut.update ..))
    · rw [stored, if_pos (any_of_findIdx_some (hidx ▸ hi))]
      have hl : (es.toList.findIdx? fun e => knd.is k e.key) = some i := by rw [← hi]; obtain ⟨l⟩ := es; simp
      have := hp.modify hn hl v
      obtain ⟨l⟩ := es
      simpa using this
    · rw [stored, if_pos (any_of_findIdx_some (hidx ▸ hi)), keys_map_store]; exact hn
  | none =>
    have hnot : k ∉ kvs.map (·.1) := not_mem_of_findIdx_none (hidx ▸ hi)
    have hany : ¬ (kvs.any fun kv => decide (kv.1 = k)) = true := by
      rw [List.any_eq_true]; rintro ⟨kv, hkv, he⟩
      exact hnot (List.mem_map.mpr ⟨kv, hkv, of_decide_eq_true he⟩)
    refine wpAny_updateDictKeys (hz := hes) ho hd (hQ _ ⟨_, _, ep + 1, Heap.get?_update_self _ ho (Obj.isFreed_of_dict (Obj.data_mapDictKeys hd _)),
      hc.mapDictKeys _, Obj.data_mapDictKeys hd _, hk.push hkey _, ?_, ?_⟩ (Heap.SameBut.update ..))
    · rw [stored, if_neg hany]
      have := hp.append hkey (knd.hash k) v
      obtain ⟨l⟩ := es
      simpa using this
    · rw [stored, if_neg hany, List.map_append, List.nodup_append]
      refine ⟨hn, by simp, ?_⟩
      intro a ha b hb
      simp only [List.map_cons, List.map_nil, List.mem_singleton] at hb
      subst hb
      exact fun e => hnot (e ▸ ha)

theorem key_noRef {k : Key} {v : Value} (h : keyIs k v = true) : ∀ a, v ≠ .ref a := by
  rcases keyIs_shape h with ⟨i, t, rfl, rfl⟩ | ⟨x, t, rfl, rfl⟩ <;> intro a z <;> cases z
theorem wp_noRefs {β : Type} {f : DictEntry → Sem (ForInStep PUnit)} : ∀ (es : List DictEntry) {Q : PUnit → Shared → Prop}, (∀ e ∈ es, ∀ (Q' : ForInStep PUnit → Shared → Prop), Q' (.yield ⟨⟩) s → wpAny (model prog w) A (f e) Q' E s) → Q ⟨⟩ s →
    wpAny (model prog w) A (forIn es PUnit.unit fun e (_ : PUnit) => f e) Q E s
  | [], _, _, h => by rw [List.forIn_nil]; exact wpAny_pure h
  | e :: es, Q, hf, h => by
    rw [List.forIn_cons]
    refine wpAny_bind (hf e List.mem_cons_self _ ?_)
    exact wp_noRefs (β := β) es (fun e' he' => hf e' (List.mem_cons_of_mem _ he')) h

theorem wp_mergeMapping {d o : Addr} {kvs more : List (Key × Value)} {Q : Unit → Shared → Prop} (hdo : d ≠ o) (hoS : (o == sysModules) = false)
    (hd : s.heap.DictOf (mixKind prog w) d kvs) (ho : s.heap.DictOf (mixKind prog w) o more)
    (hQ : ∀ h', h'.DictOf (mixKind prog w) d (merged kvs more) → Heap.SameBut d s.heap h' → Q () { s with heap := h' })
    (hsz : kvs.length + more.length ≤ sizeLine) : wpAny (model prog w) A (mergeMapping d (.ref o) false) Q E s := by
  obtain ⟨od, esd, epd, hod, hcd, hdd, hkd, hpd, hnd⟩ := id hd
  obtain ⟨oo, eso, epo, hoo, hco, hdo', hko, hpo, hno⟩ := id ho
  have hlen : more.length = eso.size := by rw [← hpo.length]; simp
  unfold mergeMapping
  refine wpAny_bind (wpAny_isInstance ho.typeIs isSubtype_dict_dict ?_)
  simp only [if_true]
  refine wpAny_bind (wpAny_specialOf ho.typeIs F.slot_dict_iter.lookup ?_)
  refine wpAny_bind (wpAny_pure ?_)
  simp only [beq_self_eq_true]
  rw [if_neg (by rw [hoS]; exact Bool.false_ne_true)]
  refine wpAny_bind (wpAny_dictEntries hod hdd ?_)
  have loop : wpAny (model prog w) A (do
      let __x ← dictEntries o
      let epoch ← dictEpoch o
      forIn (List.range __x.size) PUnit.unit fun i (_ : PUnit) => (do
          let l' ← dictEntries o
          match l'[i]? with
            | some e => do
              holding [e.key, e.val] (dictPut d e.hash e.key e.val)
              let ep' ← dictEpoch o
              if (ep' != epoch) = true then do
                  (unsupported "dict.changed-during-merge" : Sem PUnit)
                  pure (ForInStep.yield PUnit.unit)
                else pure (ForInStep.yield PUnit.unit)
            | _ => do
              (unsupported "dict.changed-during-merge" : Sem PUnit)
              pure (ForInStep.yield PUnit.unit) : Sem (ForInStep PUnit))
      pure ()) Q E s := by
    refine wpAny_bind (wpAny_dictEntries hoo hdo' ?_)
    refine wpAny_bind (wpAny_dictEpoch hoo hdo' ?_)
    refine wpAny_bind ?_
    rw [List.range_eq_range']
    refine wpAny_forIn_list _
      (fun rest _ s' => ∃ h' i, s' = { s with heap := h' } ∧ rest = List.range' i (eso.size - i) ∧ i ≤ eso.size ∧ h'.DictOf (mixKind prog w) d (merged kvs (more.take i)) ∧ h'.get? o = some oo ∧ Heap.SameBut d s.heap h')
      _ ?_ ?_ _ _ ⟨s.heap, 0, rfl, by simp, Nat.zero_le _, by simpa [merged] using hd, hoo, Heap.SameBut.refl _ _⟩
    · rintro x rest b s' ⟨h', i, rfl, hr, hi, hd', hoo', hs'⟩
      have hlt : i < eso.size := by
        rcases Nat.lt_or_ge i eso.size with h | h
        · exact h
        · rw [Nat.sub_eq_zero_of_le h] at hr; simp at hr
      obtain ⟨rfl, hrest⟩ : x = i ∧ rest = List.range' (i + 1) (eso.size - (i + 1)) := by
        have e : eso.size - i = (eso.size - (i + 1)) + 1 := by omega
        rw [e, List.range'_succ] at hr
        injection hr with h1 h2
        exact ⟨h1, h2⟩
      refine wpAny_bind (wpAny_dictEntries hoo' hdo' ?_)
      rw [Array.getElem?_eq_getElem hlt]
      obtain ⟨kv, hkv⟩ : ∃ kv, more[x]? = some kv := ⟨more[x]'(by rw [hlen]; exact hlt), List.getElem?_eq_getElem _⟩
      obtain ⟨k, v⟩ := kv
      obtain ⟨hkey, hval⟩ := hpo.get? (e := eso[x]) (by simp [hlt]) hkv
      obtain ⟨k', hkey', hhash⟩ := hko eso[x] (Array.getElem_mem hlt)
      obtain rfl : k' = k := (mixKind prog w).inj _ _ _ hkey' hkey
      show wpAny _ _ (holding [eso[x].key, eso[x].val] (dictPut d eso[x].hash eso[x].key eso[x].val) >>= _) _ _ _
      rw [hhash, hval]
      have hmx : (merged kvs (more.take x)).length ≤ sizeLine := by
        have e1 := merged_length_le kvs (more.take x)
        have e2 : (more.take x).length ≤ more.length := by rw [List.length_take]; omega
        omega
      refine wpAny_bind (wpAny_holding (wp_dictPut (hsz := hmx) hkey hd' fun h'' hd'' hs'' => ?_))
      have hoo'' : h''.get? o = some oo := (hs''.2 o (Ne.symm hdo)).trans hoo'
      refine wpAny_bind (wpAny_dictEpoch hoo'' hdo' ?_)
      rw [if_neg (by simp)]
      exact wpAny_pure ⟨h'', x + 1, rfl, hrest, hlt, by rw [merged_take_succ kvs more x (k', v) hkv]; exact hd'', hoo'', hs'.trans hs''⟩
    · rintro b s' ⟨h', i, rfl, hr, hi, hd', hoo', hs'⟩
      have hin : i = eso.size := by
        rcases Nat.lt_or_ge i eso.size with h | h
        · have e : eso.size - i = (eso.size - (i + 1)) + 1 := by omega
          rw [e, List.range'_succ] at hr; exact nomatch hr
        · exact Nat.le_antisymm hi h
      refine wpAny_pure (hQ h' ?_ hs')
      rw [hin, ← hlen, List.take_length] at hd'; exact hd'
  split
  · refine wpAny_bind (wpAny_dictEntries hoo hdo' ?_)
    refine wpAny_bind ?_
    rw [← Array.forIn_toList]
    refine wp_noRefs (β := Unit) _ (fun e he Q' hq => ?_) ?_
    · obtain ⟨k', hk', _⟩ := hko e (by simpa using he)
      have := key_noRef hk'
      split
      · rename_i a ha
        exact absurd ha (this a)
      · exact wpAny_pure hq
    · exact loop
  · exact loop
end

section
variable {prog : Program} {w : World} {A : Around} {E : Value → Shared → Prop} {s : Shared}
theorem wp_star {dm : Sem Value} {prs : Sem Value × Sem Value} {Q : Value → Shared → Prop}
    (h : wpAny (model prog w) A dm (fun m s1 => ∃ o more, m = .ref o ∧ s.heap.objs.size ≠ o ∧ (o == sysModules) = false ∧ s1.heap.DictOf (mixKind prog w) s.heap.objs.size [] ∧ s1.heap.DictOf (mixKind prog w) o more ∧ more.length ≤ sizeLine ∧
      ∀ h', h'.DictOf (mixKind prog w) s.heap.objs.size more → Heap.SameBut s.heap.objs.size s1.heap h' →
        wpAny (model prog w) A (subDict [prs]) (fun d s2 => ∃ kv kvs, s2.heap.DictOf (mixKind prog w) d [kv] ∧ s2.heap.DictOf (mixKind prog w) s.heap.objs.size kvs ∧ s.heap.objs.size ≠ d ∧ (d == sysModules) = false ∧ kvs.length + 1 ≤ sizeLine ∧
          ∀ h'', h''.DictOf (mixKind prog w) s.heap.objs.size (stored kvs kv.1 kv.2) → Heap.SameBut s.heap.objs.size s2.heap h'' → Q (.ref s.heap.objs.size) { s2 with heap := h'' }) E { s1 with heap := h' }) E
      { s with heap := s.heap.push { cls := .type "dict", data := .dict #[] } }) :
    wpAny (model prog w) A (dictDisplay [(none, dm), (some prs.1, prs.2)]) Q E s := by
  unfold dictDisplay
  simp only [List.forIn_cons, List.forIn_nil, List.isEmpty_nil, if_true, List.nil_append, List.length_singleton]
  refine wpAny_bind (wpAny_bind (wpAny_bind (wpAny_pure ?_)))
  dsimp only
  refine wpAny_bind (wpAny_alloc ?_)
  refine wpAny_bind (wpAny_holding (wpAny_mono h (fun m s1 h1 => ?_) fun _ _ e => e))
  obtain ⟨o, more, rfl, hne, hoS, hd, ho, hz, h2⟩ := h1
  refine wpAny_bind (wpAny_onRaise (wpAny_tryCatch (wpAny_onRaise (wpAny_holding (wp_mergeMapping hne hoS hd ho (fun h' hd' hs' => ?_) (by simpa using hz))))))
  have hn : (more.map (·.1)).Nodup := let ⟨_, _, _, _, _, _, _, _, hn⟩ := ho; hn
  rw [merged_nil_of_nodup more hn] at hd'
  refine wpAny_pure ?_
  dsimp only
  refine wpAny_bind ?_
  rw [if_neg (by simp)]
  refine wpAny_pure ?_
  dsimp only
  refine wpAny_pure ?_
  refine wpAny_bind ?_
  rw [if_neg (by simp)]
  dsimp only
  refine wpAny_bind (wpAny_holding (wpAny_mono (h2 h' hd' hs') (fun d s2 h3 => ?_) fun _ _ e => e))
  obtain ⟨kv, kvs, hd2, hm2, hne2, hdS, hz2, h4⟩ := h3
  refine wpAny_bind (wpAny_onRaise (wpAny_holding (wp_mergeMapping hne2 hdS hm2 hd2 (fun h'' hd'' hs'' => ?_) (by simpa using hz2))))
  refine wpAny_pure ?_
  dsimp only
  exact wpAny_pure (h4 h'' hd'' hs'')
end

/-- {**d, k: v} -/
def tStar (td tk tv : TE) : TE := fun σ H Q => ∀ p, H p = none → td σ (upd H p (.dK [])) fun x H1 => ∃ a kvs, x = .ref a ∧ p ≠ a ∧ H1 p = some (.dK []) ∧ Rd H1 a (.dK kvs) ∧
  ∀ q, upd H1 p (.dK kvs) q = none → tk σ (upd (upd H1 p (.dK kvs)) q (.dK [])) fun y H2 => tv σ H2 fun z H3 => H3 q = some (.dK []) ∧ H3 p = some (.dK kvs) ∧ kvs.length < sizeLine ∧ ∃ k, y = kV k ∧ Q (.ref p) (upd (upd H3 q (.dK [(k, z)])) p (.dK (putK kvs k z)))
section
variable {X : Cx} {pos : Pos} {d k v : Expr} {td tk tv : TE}
theorem pe_star (hd : PE X d td) (hk : PE X k tk) (hv : PE X v tv) : PE X (.Dict [none, some k] [d, v] pos) (tStar td tk tv) := by
  refine ⟨fun pins s σ H Q I q => ?_⟩
  have hp := I.hok.fresh (Nat.le_refl s.heap.objs.size)
  have I0 := I.laid (a := s.heap.objs.size) (o := .dK []) (h' := s.heap.push { cls := .type "dict", data := .dict #[] }) (t' := s.toks) (fun _ _ q => Heap.get?_push_of_some _ q) (Nat.le_refl _) (dk_empty s.heap I.big)
  rw [arm_eval_Dict]
  refine wpAny_bind (wpAny_standAt ?_)
  show wpAny (model X.prog X.w) X.A (dictDisplay [(none, do let x ← eval d X.env; standAt pos; pure x), (some (eval k X.env), do let x ← eval v X.env; standAt pos; pure x)]) _ _ _
  refine wp_star (prs := (eval k X.env, do let x ← eval v X.env; standAt pos; pure x)) ?_
  refine wpAny_bind (thn (hd.run pins _ σ _ _ I0 (q _ hp)) fun u s1 ⟨x, H1, I1, rx, a, kvs, ex, hne, e1, e2, q1⟩ => wpAny_bind (wpAny_standAt (wpAny_pure ?_)))
  subst ex
  obtain rfl : u = Value.ref a := rx
  obtain ⟨z0, hp0, vs0, r0, dp⟩ := dk_of I1.hok e1
  cases r0
  obtain ⟨z, hdS, vs, rel, dd⟩ := dk_rd I1.hok e2
  refine ⟨a, vs, rfl, hne, hdS, dp, dd, by rw [← rel.length]; exact z, fun h' dd' hs => ?_⟩
  have he : ∃ q, h'.get? s.heap.objs.size = some q := let ⟨q, _, _, hq, _⟩ := dd'; ⟨q, hq⟩
  have I2 := d_write (t' := s1.toks) I1 (by rw [e1]; exact True.intro) hs he (dk_new z hp0 rel dd')
  have hq := I2.hok.fresh (Nat.le_refl h'.objs.size)
  have I3 := I2.laid (a := h'.objs.size) (o := .dK []) (h' := h'.push { cls := .type "dict", data := .dict #[] }) (t' := s1.toks) (fun _ _ q => Heap.get?_push_of_some _ q) (Nat.le_refl _) (dk_empty h' I2.big)
  refine wpAny_subDict (knd := mixKind X.prog X.w) (s := { s1 with heap := h' }) (by simp) ?_
  refine pairTrees_cons_walk (ks := []) (vs := []) (thn (hk.run pins _ σ _ _ I3 (q1 _ hq)) fun u2 s2 ⟨y, H2, I4, ry, q2⟩ => thn (hv.run pins s2 σ H2 _ I4 q2) fun u3 s3 ⟨zz, H3, I5, rz, e3, e4, hlt, kk, ey, q3⟩ => pairTrees_nil_walk ?_)
  subst ey
  obtain ⟨z5, hq5, vs5, r5, dq⟩ := dk_of I5.hok e3
  cases r5
  refine ⟨[(kk, u3)], ⟨kV_is ry, rfl, trivial⟩, dq, fun h5 dd5 hs5 => ?_⟩
  have he5 : ∃ q, h5.get? h'.objs.size = some q := let ⟨q, _, _, hq, _⟩ := dd5; ⟨q, hq⟩
  have rel5 : KV [(kk, zz)] (merged [] [(kk, u3)]) := .cons ⟨rfl, rz⟩ .nil
  have I6 := d_write (t' := s3.toks + 1) I5 (by rw [e3]; exact True.intro) hs5 he5 (dk_new (by rw [sizeLine_eq, List.length_singleton]; decide) hq5 rel5 dd5)
  have hpq : s.heap.objs.size ≠ h'.objs.size := fun z => by
    rw [← z, upd_same] at hq; cases hq
  have e4' : upd H3 h'.objs.size (.dK [(kk, zz)]) s.heap.objs.size = some (.dK kvs) := by rw [upd_ne hpq]; exact e4
  obtain ⟨z6, hp6, vs6, r6, dp6⟩ := dk_of I6.hok e4'
  refine ⟨(kk, u3), vs6, dd5, dp6, hpq, hq5, by rw [← r6.length]; exact hlt, fun h7 dd7 hs7 => ?_⟩
  have he7 : ∃ q, h7.get? s.heap.objs.size = some q := let ⟨q, _, _, hq, _⟩ := dd7; ⟨q, hq⟩
  have hl7 : (putK kvs kk zz).length ≤ sizeLine := by have := length_putK kvs kk zz; omega
  exact ⟨.ref _, _, d_write (t' := s3.toks + 1) I6 (by rw [e4']; exact True.intro) hs7 he7 (dk_new hl7 hp6 (r6.put kk rz) dd7), rfl, q3⟩
end

section
variable {S : SA} {X : Cx} {G F G' F' H H' : Hp} {σ : L2.St} {env : DEnv} {d : D} {v : V} {p q : Addr} {Q : VK}
/-- a new object is kept, as it is, for a while -/
theorem Good.hold (g : Good S G F σ H env) (hp : H p = none) (o : HO) : Good S (upd G p o) F σ (upd H p o) env ∧ Ext G F (upd G p o) F := by
  have n := g.no hp
  have nf := g.fg.no n
  obtain ⟨n1, n2⟩ := g.stNe hp
  refine ⟨⟨fun a u e => ?_, g.fg.trans (sub_upd n), ⟨g.st.1, ?_⟩, by rw [upd_ne n1.symm]; exact g.ns, by rw [upd_ne n2.symm]; exact g.nc, g.len, fun i sl e => ?_, g.dist⟩, ⟨sub_upd n, Sub.refl _, fun a h _ => h⟩⟩
  · by_cases z : a = p
    · subst z; rw [upd_same] at e ⊢; exact e
    · rw [upd_ne z] at e ⊢; exact g.kp a u e
  · obtain ⟨_, m, cs, h1, h2, h3⟩ := g.st
    exact ⟨m, cs, by rw [upd_ne n1.symm]; exact h1, by rw [upd_ne n2.symm]; exact h2, h3⟩
  · have r := g.slot i sl e
    cases sl with
    | val d => exact r
    | bor d => obtain ⟨u, q1, q2⟩ := r; exact ⟨u, q1, q2.mono (sub_upd n) (Sub.refl _)⟩
    | own d =>
      obtain ⟨a, h1, h2, h3, h4, h5⟩ := r
      have na : a ≠ p := fun z => g.ownNe hp i d e (by rw [h1, z])
      exact ⟨a, h1, by rw [upd_ne na]; exact h2, h3, h4, ownR_mono (Sub.refl _) (fun o z => by rw [upd_ne na]; exact z) h5⟩
/-- p is nobody's -/
structure Free (S : SA) (σ : L2.St) (env : DEnv) (p : Addr) : Prop where
  n1 : p ≠ S.sa
  n2 : p ≠ S.ca
  own : ∀ (i : Nat) (di : D), env[i]? = some (some (.own di)) → σ[i]? ≠ some (some (.ref p))
  bor : NoBor σ env p
theorem Good.free (g : Good S G F σ H env) (hp : H p = none) : Free S σ env p := ⟨(g.stNe hp).1, (g.stNe hp).2, g.ownNe hp, g.borNe hp⟩
theorem Ext.drop {o : HO} (n : G p = none) (e : Ext (upd G p o) F G' F') : Ext G F (delH G' p) F' := by
  refine ⟨fun a u h => ?_, e.f, fun a h h' => ?_⟩
  · have na : a ≠ p := fun z => by rw [z, n] at h; cases h
    unfold delH; rw [if_neg na]
    exact e.g a u (by rw [upd_ne na]; exact h)
  · have na : a ≠ p := fun z => h' (by rw [z]; exact n)
    exact e.n a h (by rw [upd_ne na]; exact h')
theorem Ext.at_ {o : HO} (e : Ext (upd G p o) F G' F') : G' p = some o := e.g p o upd_same
theorem Ext.atF {o : HO} (nf : F p = none) (e : Ext (upd G p o) F G' F') : F' p = none := e.n p nf (by rw [upd_same]; simp)
theorem Free.ne {t : Bool} {kvs : List (D × D)} {a : Addr} (f : Free S σ env p) (nf : F p = none) (r : RdB S F σ env (.dct t kvs) (.ref a)) : p ≠ a := by
  rintro rfl
  rcases r with r | ⟨i, hs, h⟩
  · cases r with
    | dctK h _ _ => rw [nf] at h; cases h
    | dctT h _ _ => rw [nf] at h; cases h
  · rcases hs with e | e
    · exact f.own i _ e h
    · exact f.bor i _ e h
/-- it is turned, and nobody's still -/
theorem Good.drop {o o' : HO} (g : Good S G F σ H env) (f : Free S σ env p) (hp : G p = some o) (hf : F p = none) : Good S (delH G p) F σ (upd H p o') env := g.chg hp hf f.bor
theorem delH_at (G : Hp) (p : Addr) : delH G p p = none := by unfold delH; rw [if_pos rfl]
theorem Good.put {o' : HO} (g : Good S G F σ H env) (f : Free S σ env p) (hp : G p = none) : Good S G F σ (upd H p o') env := g.swap hp f.n1 f.n2 f.own
theorem Free.fresh {o' : HO} (f : Free S σ env p) (hp : G p = none) (r : OwnR S F (upd H p o') p d) : FreshR S G F σ (upd H p o') env p d := ⟨hp, f.n1, f.n2, f.own, r⟩
def mStar (md mk mv : DE) : DE := fun env => md env >>= fun d => match d with
  | .dct false kvs => if kvs.length < sizeLine then mk env >>= fun k => if k.isKey then mv env >>= fun v => .ret (.dct false (putD kvs k v)) else .fail else .fail
  | _ => .fail
theorem upd_upd_self {H : Hp} {p : Addr} {o o' : HO} : upd (upd H p o) p o' = upd H p o' := by
  funext a
  by_cases z : a = p
  · subst z; rw [upd_same, upd_same]
  · rw [upd_ne z, upd_ne z, upd_ne z]
variable {ed ek ev : Expr} {md mk mv : DE} {pos : Pos}
theorem qstar (hd : QB S X ed md) (hk : QB S X ek mk) (hv : QE S X ev mv) : QF S X (.Dict [none, some ek] [ed, ev] pos) (mStar md mk mv) :=
  pe_weak (pe_star hd hk hv) fun σ H Q ⟨G, F, env, g, q⟩ p hp => by
    obtain ⟨g0, e0⟩ := g.hold hp (.dK [])
    have fp := g.free hp
    have np := g.no hp
    have nfp := g.fg.no np
    refine ⟨_, F, env, g0, M.wp_mono (M.wpb q) fun d q v G1 F1 H1 e1 g1 r1 => ?_⟩
    split at q
    · rename_i kvs
      split at q
      · rename_i hlt
        obtain ⟨a, es, rfl, hrd, rk, zk⟩ := r1.dctK g1
        have nf1 := e1.atF nfp
        have hne := fp.ne nf1 r1
        refine ⟨a, es, rfl, hne, g1.kp _ _ e1.at_, hrd, fun c hc => ?_⟩
        have x1 := e1.drop np
        have g1' : Good S (delH G1 p) F1 σ (upd H1 p (.dK es)) env := g1.drop fp e1.at_ nf1
        have g1'' : Good S (upd (delH G1 p) p (.dK es)) F1 σ (upd H1 p (.dK es)) env ∧ Ext (delH G1 p) F1 (upd (delH G1 p) p (.dK es)) F1 := by
          refine ⟨⟨fun b u e => ?_, g1'.fg.trans (sub_upd (delH_at _ _)), g1'.st, by rw [upd_ne fp.n1.symm]; exact g1'.ns, by rw [upd_ne fp.n2.symm]; exact g1'.nc, g1'.len, fun i sl e => ?_, g1'.dist⟩, ⟨sub_upd (delH_at _ _), Sub.refl _, fun _ h _ => h⟩⟩
          · by_cases z : b = p
            · subst z; rw [upd_same] at e ⊢; exact e
            · rw [upd_ne z] at e; exact g1'.kp b u e
          · have r := g1'.slot i sl e
            cases sl with
            | val d => exact r
            | bor d => obtain ⟨u, q1, q2⟩ := r; exact ⟨u, q1, q2.mono (sub_upd (delH_at _ _)) (Sub.refl _)⟩
            | own d =>
              obtain ⟨b, h1, h2, h3, h4, h5⟩ := r
              have nb : b ≠ p := fun z => fp.own i d e (by rw [h1, z])
              exact ⟨b, h1, by rw [upd_ne nb]; exact h2, h3, h4, h5⟩
        obtain ⟨g2, x2⟩ := g1''
        obtain ⟨g3, x3⟩ := g2.hold hc (.dK [])
        have nc := g2.no hc
        have nfc := g2.fg.no nc
        have fc := g2.free hc
        have hpc : p ≠ c := fun z => by rw [← z, upd_same] at hc; cases hc
        refine ⟨_, F1, env, g3, M.wp_mono (M.wpb q) fun k q u G4 F4 H4 e4 g4 r4 => ?_⟩
        split at q
        · rename_i hkey
          refine ⟨_, F4, env, g4, M.wp_mono (M.wpb q) fun y q w G5 F5 H5 e5 g5 r5 => ?_⟩
          have e45 := e4.trans e5
          have G5c : G5 c = some (.dK []) := e45.at_
          have G5p : G5 p = some (.dK es) := e45.g p _ (by rw [upd_ne hpc]; exact upd_same)
          have F5c : F5 c = none := e45.atF nfc
          have F5p : F5 p = none := e45.n p nf1 (by rw [upd_ne hpc, upd_same]; simp)
          have x45 : Ext (upd (delH G1 p) p (.dK es)) F1 (delH G5 c) F5 := e45.drop nc
          have x5 : Ext (delH G1 p) F1 (delH (delH G5 c) p) F5 := x45.drop (delH_at _ _)
          refine ⟨g5.kp _ _ G5c, g5.kp _ _ G5p, by rw [← rk.len]; exact hlt, ?_⟩
          have rk4 : Rp S F4 k u := by
            rcases r4.elim g4 with r | ⟨_, _, h4⟩
            · exact r
            · exfalso; cases k <;> first | exact h4.elim | cases hkey
          obtain ⟨kk, hkd, rfl⟩ := key_of_isKey hkey rk4
          refine ⟨kk, rfl, ?_⟩
          have g6 := g5.drop (o' := .dK [(kk, w)]) fc G5c F5c
          have dp : delH G5 c p = some (.dK es) := by unfold delH; rw [if_neg hpc]; exact G5p
          have g7 := g6.drop (o' := .dK (putK es kk w)) fp dp F5p
          have rr : RpK S F5 (putD kvs k y) (putK es kk w) := (rk.mono (e45.f)).put hkd r5
          exact (show PostF S G F σ env Q _ from q) p _ F5 _ (x1.trans x5) g7 (fp.fresh (delH_at _ _) ⟨_, upd_same, rr, by rw [← rr.len]; have h1 := putK_le es kk w; have h2 := rr.len; have h3 := rk.len; omega⟩)
        · exact q.elim
      · exact q.elim
    · exact q.elim
end

/-! ### dict(pairs), dict(d) -/
def pairsD : List D → Option (List (D × D))
  | [] => some []
  | .tup [k, v] :: r => if k.isKey then (pairsD r).map ((k, v) :: ·) else none
  | _ :: _ => none
def mergeD (kvs more : List (D × D)) : List (D × D) := more.foldl (fun acc p => putD acc p.1 p.2) kvs
def dDict : List D → M D
  | [.lst xs] => match pairsD xs with
    | some ps => .ret (.dct false (mergeD [] ps))
    | none => .fail
  | [.dct false kvs] => .ret (.dct false kvs)
  | _ => .fail
section
variable {S : SA} {X : Cx} {G F G' F' H H' : Hp} {σ : L2.St} {env : DEnv}
theorem RpK.merge {more : List (D × D)} {ms : List (Key × V)} (r : RpK S F more ms) : ∀ {kvs : List (D × D)} {es : List (Key × V)}, RpK S F kvs es → RpK S F (mergeD kvs more) (mergeK es ms) := by
  induction more generalizing ms with
  | nil => cases r; intro kvs es q; exact q
  | cons p t ih =>
    cases r with
    | cons hk hr ht => intro kvs es q; exact ih ht (q.put hk hr)
theorem pairs_read (s : Sub F H) {K : PySem.W.Frag} : ∀ {xs : List D} {vs : List V} {ps : List (D × D)}, pairsD xs = some ps → RpL S F xs vs → ∃ as kvs, vs = as.map V.ref ∧ PySem.Paired (fun p (kv : Key × V) => SqT K H p [kV kv.1, kv.2]) as kvs ∧ RpK S F ps kvs
  | [], _, ps, e, r => by
    cases r
    simp only [pairsD, Option.some.injEq] at e
    subst e
    exact ⟨[], [], rfl, .nil, .nil⟩
  | x :: xs, _, ps, e, r => by
    cases r with
    | cons r1 r2 =>
      unfold pairsD at e
      split at e
      · rename_i heq; cases heq
      · rename_i k v r' heq
        cases heq
        split at e
        · rename_i hk
          obtain ⟨ps', e1, e2⟩ := Option.map_eq_some_iff.mp e
          subst e2
          cases r1 with
          | tup h1 l1 z1 =>
            cases l1 with
            | cons rk l2 =>
              cases l2 with
              | cons rv l3 =>
                cases l3
                obtain ⟨kk, hkd, rfl⟩ := key_of_isKey hk rk
                obtain ⟨as, kvs, q1, q2, q3⟩ := pairs_read s (K := K) e1 r2
                exact ⟨_ :: as, (kk, _) :: kvs, by rw [List.map_cons, ← q1], .cons (.of (s _ _ h1)) q2, .cons hkd rv q3⟩
        · cases e
      · cases e
theorem c_dict (hc : X.calm = true) : CallF S X (.type "dict") dDict := ⟨_, callR_or (call_dictP hc) call_dictD, fun G F σ H env vs ds Q g r q => by
  unfold dDict at q
  split at q
  · rename_i xs
    split at q
    · rename_i ps hps
      obtain ⟨v, rfl, r1⟩ := rdb1 r
      obtain ⟨p, ys, rfl, h1, l1, z1⟩ := r1.lst g
      obtain ⟨as, kvs, e1, e2, e3⟩ := pairs_read g.fh (K := X.K) hps l1
      subst e1
      refine .inl ⟨p, as, kvs, rfl, .of h1, e2, fun a hn => ?_⟩
      have rr : RpK S F (mergeD [] ps) (mergeK [] kvs) := e3.merge .nil
      exact (show PostF S G F σ env Q (.dct false (mergeD [] ps)) from q) a G F _ (Ext.refl _ _) (g.new hn _) ((g.free hn).fresh (g.no hn) ⟨_, upd_same, rr, by
        have h2 := length_mergeK kvs []
        have h3 : as.length = kvs.length := e2.length
        rw [List.length_map] at z1
        rw [List.length_nil] at h2
        omega⟩)
    · exact q.elim
  · rename_i kvs
    obtain ⟨v, rfl, r1⟩ := rdb1 r
    obtain ⟨p, es, rfl, hrd, rk, zk⟩ := r1.dctK g
    exact .inr ⟨p, es, rfl, hrd, fun a hn => (show PostF S G F σ env Q (.dct false kvs) from q) a G F _ (Ext.refl _ _) (g.new hn _) ((g.free hn).fresh (g.no hn) ⟨_, upd_same, rk, zk⟩)⟩
  · exact q.elim⟩
end
end DL

set_option Elab.async false
set_option linter.all false
set_option maxRecDepth 100000
/-! DL13: a law's own state and draws. -/
namespace DL
open PySem PySem.Spec L2
open PyProof.Rows hiding St

abbrev rModI : R2 := rI (fun _ j => 0 < j) fun i j => .int (i % j)
abbrev rFdI : R2 := rI CDiv fun i j => .int (i / j)
abbrev rAddI : R2 := rI0 fun i j => .int (i + j)
abbrev rMulI : R2 := rI CMul fun i j => .int (i * j)
abbrev rGeI : R2 := rI0 fun i j => .bl (decide (j ≤ i))
abbrev rLenX (K : PySem.W.Frag) : List V → Hp → VK → Prop := fun xs H Q => ∃ x n, xs = [x] ∧ LenV K x H n ∧ Q (.int (n : Nat)) H
abbrev rIntX : List V → Hp → VK → Prop := fun xs H Q => (∃ i, xs = [V.int i] ∧ Q (V.int i) H) ∨ ∃ k : Bool, xs = [V.bl k] ∧ Q (V.int (if k = true then 1 else 0)) H
theorem ixN_at {n j : Nat} (hj : j < n) : ixN n (j : Int) = some j := by
  unfold ixN
  rw [if_pos (by omega), if_pos (by omega)]
  simp
def tTake (K : PySem.W.Frag) : TS :=
  tSeq (tAsg (tOp (rIx K) (tVar 0) (tC (.int 1))) (gName 2))
  (tSeq (tAsg (tOp rModI (tOp (rIx K) (tVar 0) (tC (.int 0))) (tCB (rLenX K) (tCons (tVar 2) tNil))) (gName 3))
  (tSeq (tAsg (tOp (rIx K) (tVar 2) (tVar 3)) (gName 4))
  (tSeq (tIfS (tTest (tOp rGeI (tVar 4) (tC (.int 1000000000000000000)))) (tSeq (tAsg (tOp rFdI (tVar 4) (tVar 1)) (gSub (tVar 2) (tVar 3) rSetL)) (tRet (tOp rModI (tVar 4) (tVar 1)))) tNext)
  (tSeq (tAsg (tOp rAddI (tOp (rIx K) (tVar 0) (tC (.int 0))) (tC (.int 1))) (gSub (tVar 0) (tC (.int 0)) rSetL))
  (tSeq (tAsg (tOp rModI (tCB rIntX (tCons (tOp rAddI (tOp rMulI (tVar 4) (tC (.int 48271))) (tOp rMulI (tOp (rIx K) (tVar 0) (tC (.int 0))) (tC (.int 69621)))) tNil)) (tC (.int 2147483647))) (gName 5))
  (tSeq (tAsg (tOp rModI (tCB rIntX (tCons (tOp rAddI (tOp rMulI (tVar 5) (tC (.int 16807))) (tOp rMulI (tOp (rIx K) (tVar 0) (tC (.int 0))) (tC (.int 7919)))) tNil)) (tC (.int 1000000007))) (gName 5))
  (tRet (tOp rModI (tOp rFdI (tVar 5) (tC (.int 7))) (tVar 1)))))))))
theorem take_run {K : PySem.W.Frag} {S : SA} {vs : List V} {H : Hp} {Q : VK} {E : XK} (h : spTake S vs H Q E) : tTake K { nx := fun _ H' => Q .non H', rt := Q } (L2.start ["state", "most", "cells", "at", "cell", "mixed"] vs) H := by
  obtain ⟨k, rfl, k0, k1, ⟨hne, m, cs, h1, h2, h3⟩, q⟩ := h
  have hl : (0 : Int) < ((cs.map V.int).length : Int) := by rw [List.length_map]; omega
  refine ⟨_, rfl, .inl ⟨S.sa, _, _, _, rfl, rfl, .of h1, rfl, ?_⟩⟩
  refine ⟨_, rfl, .inl ⟨S.sa, _, _, _, rfl, rfl, .of h1, rfl, _, rfl, _, _, rfl, .inl ⟨_, .of h2, rfl⟩, (m : Int), _, rfl, rfl, hl, ?_⟩⟩
  obtain ⟨j, hj, ej⟩ : ∃ j : Nat, j < cs.length ∧ (m : Int) % ((cs.map V.int).length : Int) = (j : Int) := by
    rw [List.length_map]
    refine ⟨m % cs.length, Nat.mod_lt _ h3, by omega⟩
  show gName 3 (V.int ((m : Int) % ((cs.map V.int).length : Int))) _ _ _
  rw [ej]
  have hc : (cs.map V.int)[j]? = some (.int cs[j]) := by rw [List.getElem?_map, List.getElem?_eq_getElem hj]; rfl
  refine ⟨_, rfl, _, rfl, .inl ⟨S.ca, _, _, _, rfl, rfl, .of h2, (atI_nat hc), ?_⟩⟩
  refine ⟨_, rfl, _, _, rfl, rfl, _, rfl, ?_⟩
  by_cases hb : (1000000000000000000 : Int) ≤ cs[j]
  · have e : decide ((1000000000000000000 : Int) ≤ cs[j]) = true := decide_eq_true hb
    rw [e]
    refine L2.iteT ?_
    refine ⟨_, rfl, _, rfl, _, _, rfl, rfl, ⟨k0, by omega⟩, _, rfl, _, rfl, S.ca, _, _, j, rfl, rfl, h2, (ixN_at (by rw [List.length_map]; exact hj)), ?_⟩
    refine ⟨_, rfl, _, rfl, _, _, rfl, rfl, k0, ?_⟩
    refine q _ _ (Int.emod_nonneg _ (by omega)) (Int.emod_lt_of_pos _ k0) ⟨hne, m, cs.set j (cs[j] / k), ?_, ?_, ?_⟩ fun a n1 n2 => by rw [upd_ne n2]
    · rw [upd_ne hne]; exact h1
    · rw [upd_same, List.map_set]
    · rw [List.length_set]; exact h3
  · have e : decide ((1000000000000000000 : Int) ≤ cs[j]) = false := decide_eq_false hb
    rw [e]
    refine L2.iteF ?_
    refine ⟨_, rfl, .inl ⟨S.sa, _, _, _, rfl, rfl, .of h1, rfl, _, _, rfl, rfl, _, rfl, S.sa, _, _, 0, rfl, rfl, h1, rfl, ?_⟩⟩
    have h1' : upd H S.sa (.lst ([V.int (m : Int), V.ref S.ca].set 0 (V.int ((m : Int) + 1)))) S.sa = some (.lst [V.int ((m : Int) + 1), V.ref S.ca]) := upd_same
    refine ⟨_, rfl, _, _, rfl, rfl, .inr (by omega), _, rfl, .inl ⟨S.sa, _, _, _, rfl, rfl, .of h1', rfl, _, _, rfl, rfl, .inr (by omega), _, _, rfl, rfl, .inl ⟨_, rfl, _, _, rfl, rfl, by omega, ?_⟩⟩⟩
    refine ⟨_, rfl, _, _, rfl, rfl, .inr (by omega), _, rfl, .inl ⟨S.sa, _, _, _, rfl, rfl, .of h1', rfl, _, _, rfl, rfl, .inr (by omega), _, _, rfl, rfl, .inl ⟨_, rfl, _, _, rfl, rfl, by omega, ?_⟩⟩⟩
    refine ⟨_, rfl, _, _, rfl, rfl, ⟨by omega, by omega⟩, _, rfl, _, _, rfl, rfl, k0, ?_⟩
    refine q _ _ (Int.emod_nonneg _ (by omega)) (Int.emod_lt_of_pos _ k0) ⟨hne, m + 1, cs, ?_, ?_, h3⟩ fun a n1 n2 => by rw [upd_ne n1]
    · rw [upd_same]; rfl
    · rw [upd_ne hne.symm]; exact h2

abbrev rAbsX : List V → Hp → VK → Prop := fun xs H Q => ∃ i, xs = [V.int i] ∧ Q (V.int (if i < 0 then -i else i)) H
def tState (K : PySem.W.Frag) : TS :=
  tSeq (tAsg (tLc (iList K (tSl (rSlL K) (tVar 0) tNoPart (tPart (tC (.int 63))))) (gName 2) tYes (tCB rAbsX (tCons (tVar 2) tNil)) [2]) (gName 1))
  (tSeq (tIfS (tTest (tOp rEq (tCB (rLenX K) (tCons (tVar 1) tNil)) (tC (.int 0)))) (tAsg (tLst (tCons (tC (.int 0)) tNil)) (gName 1)) tNext)
  (tRet (tLst (tCons (tC (.int 0)) (tCons (tVar 1) tNil)))))
def spState (K : PySem.W.Frag) : Sp := fun vs H Q _ => ∃ (a : Addr) (ns : List Int), vs = [.ref a] ∧ SqL K H a (ns.map V.int) ∧ ns.length ≤ 63 ∧
  ∀ (S : SA) (H' : Hp), StOk S H' → Q (.ref S.sa) H'
theorem SqL.len_le {K : PySem.W.Frag} {H : Hp} {a : Addr} {xs : List V} (h : xs.length ≤ 63) : xs.length ≤ sizeLine := by rw [sizeLine_eq]; omega
theorem sqL_upd {K : PySem.W.Frag} {H : Hp} {a p : Addr} {xs : List V} {o : HO} (h : SqL K H a xs) (hp : H p = none) : SqL K (upd H p o) a xs := by
  rcases h with h | h
  · rcases h with h | ⟨ob, h⟩
    · exact .inl (.inl (by rw [upd_ne (ne_of_none h hp)]; exact h))
    · exact .inl (.inr ⟨ob, by rw [upd_ne (ne_of_none h hp)]; exact h⟩)
  · exact .inr h
theorem state_run {K : PySem.W.Frag} {vs : List V} {H : Hp} {Q : VK} {E : XK} (h : spState K vs H Q E) : tState K { nx := fun _ H' => Q .non H', rt := Q } (L2.start ["script", "cells", "cell"] vs) H := by
  obtain ⟨a, ns, rfl, hs, h63, q⟩ := h
  have ec : ∃ ms : List Int, cutV (ns.map V.int) none (some 63) = ms.map V.int ∧ ms.length ≤ 63 := by
    unfold cutV
    rw [← List.map_drop, ← List.map_take]
    refine ⟨_, rfl, ?_⟩
    rw [List.length_take, List.length_drop]; omega
  obtain ⟨ms, ems, hms⟩ := ec
  -- what follows the comprehension
  have rest : ∀ (H1 : Hp) (D : Addr) (zs : List Int), H1 D = some (.lst (zs.map V.int)) → zs.length ≤ 63 →
      (tSeq (tIfS (tTest (tOp rEq (tCB (rLenX K) (tCons (tVar 1) tNil)) (tC (.int 0)))) (tAsg (tLst (tCons (tC (.int 0)) tNil)) (gName 1)) tNext) (tRet (tLst (tCons (tC (.int 0)) (tCons (tVar 1) tNil)))))
        { nx := fun _ H' => Q .non H', rt := Q } ((L2.start ["script", "cells", "cell"] [V.ref a]).set 1 (some (.ref D))) H1 := by
    intro H1 D zs hD hz
    have fin : ∀ (H2 : Hp) (D2 : Addr) (ys : List Int), H2 D2 = some (.lst (ys.map V.int)) → 0 < ys.length → ∀ p, H2 p = none → Q (.ref p) (upd H2 p (.lst [.int 0, .ref D2])) := by
      intro H2 D2 ys hD2 hy p hp
      have hne : p ≠ D2 := fun z => by
        rw [z, hD2] at hp
        cases hp
      exact q ⟨p, D2⟩ _ ⟨hne, 0, ys, upd_same, by rw [upd_ne hne.symm]; exact hD2, hy⟩
    refine ⟨_, rfl, _, _, rfl, .inl ⟨_, .of hD, rfl⟩, rfl, _, rfl, ?_⟩
    by_cases h0 : zs.length = 0
    · have e : decide (V.int (((zs.map V.int).length : Nat) : Int) = V.int 0) = true := decide_eq_true (by rw [List.length_map, h0]; rfl)
      rw [e]
      refine L2.iteT ?_
      refine ⟨by show 1 ≤ sizeLine; rw [sizeLine_eq]; decide, fun p hp => ?_⟩
      refine ⟨_, rfl, by show 2 ≤ sizeLine; rw [sizeLine_eq]; decide, fun p2 hp2 => fin _ p [0] upd_same (by decide) p2 hp2⟩
    · have e : decide (V.int (((zs.map V.int).length : Nat) : Int) = V.int 0) = false := decide_eq_false (fun z => by
        have z' := V.int.inj z
        rw [List.length_map] at z'
        omega)
      rw [e]
      refine L2.iteF ?_
      exact ⟨_, rfl, by show 2 ≤ sizeLine; rw [sizeLine_eq]; decide, fun p2 hp2 => fin _ D zs hD (by omega) p2 hp2⟩
  refine ⟨_, rfl, 63, rfl, a, _, rfl, hs, fun p hp => ?_⟩
  rw [ems]
  refine ⟨p, rfl, ⟨_, .of upd_same⟩, fun D hD => ?_⟩
  have hpD : p ≠ D := fun z => by rw [← z, upd_same] at hD; cases hD
  refine lc_list (xs := ms.map V.int) (Qd := fun H' => _) (fun i H' => ∃ zs : List Int, H' D = some (.lst (zs.map V.int)) ∧ zs.length = i ∧ H' p = some (.lst (ms.map V.int))) ⟨[], upd_same, rfl, by rw [upd_ne hpD]; exact upd_same⟩ (fun i H' _ ⟨_, _, _, e⟩ => .of e) (fun i x H' hx ⟨zs, e1, e2, e3⟩ => ?_) (fun H' ⟨zs, e1, e2, e3⟩ => ?_)
  · obtain ⟨z, rfl⟩ : ∃ z, x = V.int z := by
      rw [List.getElem?_map] at hx
      cases hm : ms[i]? with
      | none => rw [hm] at hx; cases hx
      | some z => rw [hm] at hx; exact ⟨z, (Option.some.inj hx).symm⟩
    have hi : i < ms.length := by
      have := (List.getElem?_eq_some_iff.mp hx).1
      rwa [List.length_map] at this
    refine ⟨rfl, ?_⟩
    refine L2.iteT (B := ∃ zs : List Int, H' D = some (.lst (zs.map V.int)) ∧ zs.length = i + 1 ∧ H' p = some (.lst (ms.map V.int))) ?_
    refine ⟨_, rfl, z, rfl, _, e1, by rw [List.length_map, sizeLine_eq]; omega, zs ++ [if z < 0 then -z else z], ?_, by rw [List.length_append, e2]; rfl, by rw [upd_ne hpD]; exact e3⟩
    rw [upd_same, List.map_append]; rfl
  · exact rest H' D zs e1 (by rw [e2, List.length_map]; exact hms)
end DL

set_option Elab.async false
set_option linter.all false
set_option maxRecDepth 100000
/-! DL14: the law itself; from the head's facts to what the walk takes. -/
namespace DL
open PySem PySem.Spec L2
open PyProof.Rows hiding St

def spLawD (K : PySem.W.Frag) : Sp := fun vs H Q _ => ∃ (a : Addr) (ns : List Int), vs = [.ref a] ∧ SqL K H a (ns.map V.int) ∧ ns.length ≤ 63 ∧ ∀ H', Q (.bl true) H'
/-- a block's reading, the state wherever it stands -/
def TA_ (m : DS) : TS := fun D' σ H => ∃ S, TS_ S m D' σ H
theorem pss_any {X : Cx} {sts : List Stmt} {m : DS} (h : ∀ S, QSs S X sts m) : PSs X sts (TA_ m) := ⟨fun pins s σ H D' I ⟨S, q⟩ => (h S).run pins s σ H D' I q⟩
theorem law_run {K : PySem.W.Frag} {m : DS} {N : List Str} {k : Nat} (hk : N.length = k + 2) (hm : (m (none :: some (.val .stt) :: List.replicate k none)).wp fun r => r.1 = .rt (.bl true)) {vs : List V} {H : Hp} {Q : VK} {E : XK} (h : spLawD K vs H Q E) :
    tSeq (tAsg (tCall (spState K) [] E0 (tCons (tVar 0) tNil)) (gName 1)) (TA_ m) { nx := fun _ H' => Q .non H', rt := Q } (L2.start N vs) H := by
  obtain ⟨a, ns, rfl, hs, h63, q⟩ := h
  have hst : L2.start N [V.ref a] = some (.ref a) :: List.replicate (k + 1) none := by
    unfold L2.start
    rw [hk]; rfl
  rw [hst]
  refine ⟨_, rfl, a, ns, rfl, hs, h63, fun S H' st => ?_⟩
  refine ⟨S, fun _ => none, fun _ => none, none :: some (.val .stt) :: List.replicate k none, ⟨(fun _ _ e => nomatch e), (fun _ _ e => nomatch e), st, rfl, rfl, ?_, fun i sl e => ?_, fun i j di dj b e => ?_⟩, M.wp_mono hm fun r hr σ' G' F' H'' x g' => ?_⟩
  · simp
  · match i, e with
    | 0, e => cases e
    | 1, e =>
      cases e
      exact ⟨_, rfl, .stt⟩
    | i + 2, e =>
      have e' : (List.replicate k (none : Option Sl))[i]? = some (some sl) := e
      rw [List.getElem?_replicate] at e'
      split at e' <;> cases e'
  · match i, e with
    | 0, e => cases e
    | 1, e => cases e
    | i + 2, e =>
      have e' : (List.replicate k (none : Option Sl))[i]? = some (some (.own di)) := e
      rw [List.getElem?_replicate] at e'
      split at e' <;> cases e'
  · rw [hr]
    intro v rv
    cases rv
    exact q H''
/-- a def by the head's facts -/
theorem fun_of {K : PySem.W.Frag} {x qual : Str} {st : Stmt} {f : Addr} {fd : FuncData} (F : FunD K x qual (defArgs st) (defBody st) (defScope st) [] [] f fd) : L2.Fun K x qual st f fd := by
  obtain ⟨oc, od, dV, kV, doc, pm, an, cdv, ct, osl, e, lk, hcd, hD, hK⟩ := F.ex
  rcases hD with ⟨_, rfl⟩ | ⟨e, _⟩
  · exact ⟨⟨oc, od, kV, doc, pm, an, cdv, ct, osl, e, lk, hcd⟩, F.kp⟩
  · exact absurd rfl e
/-- the head's datum of a def -/
def dd (x : Str) (st : Stmt) : He.DefD := ⟨(x, none), x, x, defArgs st, defBody st, defScope st, [], []⟩
end DL

set_option Elab.async false
set_option linter.all false
set_option maxRecDepth 100000
/-! DL15: names forgotten; all draws, computed; loops whose turns do not hang together. -/
namespace DL
open PySem PySem.Spec L2
open PyProof.Rows hiding St

/-- names of which nothing is said from now on -/
def mForget (ws : List Nat) (m : DS) : DS := fun env => m (wipeE env ws)
section
variable {S : SA} {X : Cx} {G F H : Hp} {σ : L2.St} {env : DEnv}
theorem Good.forget (g : Good S G F σ H env) (ws : List Nat) : Good S G F σ H (wipeE env ws) := by
  have sl' : ∀ (i : Nat) (sl : Sl), (wipeE env ws)[i]? = some (some sl) → env[i]? = some (some sl) := fun i sl e => by
    have hi : i ∉ ws := fun hm => wipeE_in hm e
    rw [wipeE_out hi] at e
    exact e
  exact ⟨g.kp, g.fg, g.st, g.ns, g.nc, by rw [wipeE_len]; exact g.len, fun i sl e => g.slot i sl (sl' i sl e), fun j k dj dk a e1 e2 e3 e4 => g.dist j k dj dk a (sl' _ _ e1) (sl' _ _ e2) e3 e4⟩
theorem qforget (ws : List Nat) {sts : List Stmt} {m : DS} (h : QSs S X sts m) : QSs S X sts (mForget ws m) :=
  pss_weak h fun D' σ H ⟨G, F, env, g, q⟩ => ⟨G, F, wipeE env ws, g.forget ws, q⟩
end
/-! ### all draws -/
def M.all {α : Type} (p : α → Bool) : M α → Bool
  | .ret a => p a
  | .fail => false
  | .ask k f => decide (0 < k) && (decide (k < 2 ^ 30) && (List.range k.toNat).all fun i => M.all p (f (Int.ofNat i)))
theorem M.all_wp {α : Type} {p : α → Bool} {m : M α} (h : m.all p = true) : m.wp fun a => p a = true := by
  induction m with
  | ret a => exact h
  | fail => cases h
  | ask k f ih =>
    simp only [M.all, Bool.and_eq_true, decide_eq_true_eq, List.all_eq_true, List.mem_range] at h
    refine ⟨⟨h.1, h.2.1⟩, fun r h1 h2 => ?_⟩
    have e := h.2.2 r.toNat (by omega)
    have e2 : Int.ofNat r.toNat = r := Int.toNat_of_nonneg h1
    rw [e2] at e
    exact ih r e
def M.outs {α : Type} : M α → Option (List α)
  | .ret a => some [a]
  | .fail => none
  | .ask k f => if decide (0 < k) && decide (k < 2 ^ 30) then ((List.range k.toNat).mapM fun i => M.outs (f (Int.ofNat i))).map List.flatten else none
theorem mapM_some {α β : Type} {f : α → Option β} : ∀ {l : List α} {r : List β}, l.mapM f = some r → ∀ a ∈ l, ∃ b ∈ r, f a = some b
  | [], _, _, a, h => by cases h
  | x :: l, r, e, a, h => by
    rw [List.mapM_cons] at e
    cases e1 : f x with
    | none => rw [e1] at e; cases e
    | some b =>
      rw [e1] at e
      cases e2 : l.mapM f with
      | none => rw [e2] at e; cases e
      | some bs =>
        rw [e2] at e
        cases e
        rcases List.mem_cons.mp h with rfl | h
        · exact ⟨b, List.mem_cons_self, e1⟩
        · obtain ⟨c, h1, h2⟩ := mapM_some e2 a h
          exact ⟨c, List.mem_cons_of_mem _ h1, h2⟩
theorem M.outs_wp {α : Type} {m : M α} : ∀ {L : List α}, m.outs = some L → m.wp (· ∈ L) := by
  induction m with
  | ret a => intro L h; cases h; exact List.mem_cons_self
  | fail => intro L h; cases h
  | ask k f ih =>
    intro L h
    simp only [M.outs] at h
    split at h
    · rename_i hc
      simp only [Bool.and_eq_true, decide_eq_true_eq] at hc
      obtain ⟨r, e1, rfl⟩ := Option.map_eq_some_iff.mp h
      refine ⟨hc, fun i h1 h2 => ?_⟩
      obtain ⟨b, hb, e⟩ := mapM_some e1 i.toNat (List.mem_range.mpr (by omega))
      have e2 : Int.ofNat i.toNat = i := Int.toNat_of_nonneg h1
      rw [e2] at e
      exact M.wp_mono (ih i e) fun a ha => List.mem_flatten.mpr ⟨b, hb, ha⟩
    · cases h
/-! ### statements one behind another -/
theorem wp_seq {m1 m2 : DS} {env : DEnv} {P : Fl × DEnv → Prop} (h : (m1 env).wp fun r => match r.1 with | .nx => (m2 r.2).wp P | f => P (f, r.2)) : (mSeq m1 m2 env).wp P := by
  unfold mSeq
  refine M.wp_bind.mpr (M.wp_mono h fun r hr => ?_)
  obtain ⟨f, e⟩ := r
  cases f <;> exact hr
theorem seq_ret {m1 m2 : DS} {env env' : DEnv} (h : m1 env = .ret (.nx, env')) : mSeq m1 m2 env = m2 env' := by
  unfold mSeq
  rw [h]; rfl
/-- turns that leave all but the names ws as it was, and go on: each is looked at for itself -/
theorem wp_forL {gg : DG} {mb : DS} {ws : List Nat} {e : DEnv} {P : Fl × DEnv → Prop} (hg : ∀ d e', wipeE e' ws = wipeE e ws → (gg d e').wp fun e'' => wipeE e'' ws = wipeE e ws)
    (hb : (mb (wipeE e ws)).wp fun r => (r.1 = .nx ∨ r.1 = .ct) ∧ wipeE r.2 ws = wipeE e ws) (hp : ∀ e', wipeE e' ws = wipeE e ws → P (.nx, e')) :
    ∀ (ds : List D) (e' : DEnv), wipeE e' ws = wipeE e ws → (mForL gg (mForget ws mb) ds e').wp P
  | [], e', h => hp e' h
  | d :: ds, e', h => by
    unfold mForL
    refine M.wp_bind.mpr (M.wp_mono (hg d e' h) fun e1 h1 => M.wp_bind.mpr ?_)
    show (mb (wipeE e1 ws)).wp _
    rw [h1]
    refine M.wp_mono hb fun r hr => ?_
    obtain ⟨f, e2⟩ := r
    obtain ⟨h2, h3⟩ := hr
    rcases h2 with h2 | h2
    · have h2 : f = .nx := h2
      subst h2
      exact wp_forL hg hb hp ds e2 h3
    · have h2 : f = .ct := h2
      subst h2
      exact wp_forL hg hb hp ds e2 h3
end DL

set_option Elab.async false
set_option linter.all false
set_option maxRecDepth 100000
/-! DL16: trees that are the same, by computing. -/
namespace DL
open PySem PySem.Spec L2
open PyProof.Rows hiding St
mutual
def D.same : D → D → Bool
  | .non, d => match d with
    | .non => true
    | _ => false
  | .bl a, d => match d with
    | .bl b => a == b
    | _ => false
  | .int a, d => match d with
    | .int b => decide (a = b)
    | _ => false
  | .str a, d => match d with
    | .str b => decide (a = b)
    | _ => false
  | .tup xs, d => match d with
    | .tup ys => D.sameL xs ys
    | _ => false
  | .lst xs, d => match d with
    | .lst ys => D.sameL xs ys
    | _ => false
  | .dct t xs, d => match d with
    | .dct u ys => (t == u) && D.sameK xs ys
    | _ => false
  | .stt, d => match d with
    | .stt => true
    | _ => false
def D.sameL : List D → List D → Bool
  | [], ds => match ds with
    | [] => true
    | _ :: _ => false
  | x :: xs, ds => match ds with
    | [] => false
    | y :: ys => D.same x y && D.sameL xs ys
def D.sameK : List (D × D) → List (D × D) → Bool
  | [], ds => match ds with
    | [] => true
    | _ :: _ => false
  | (x, u) :: xs, ds => match ds with
    | [] => false
    | (y, v) :: ys => D.same x y && (D.same u v && D.sameK xs ys)
end
mutual
theorem D.same_eq : ∀ d e : D, D.same d e = true → d = e
  | .non, e, h => by cases e <;> simp [D.same] at h ⊢
  | .bl a, e, h => by cases e <;> simp [D.same] at h ⊢; exact h
  | .int a, e, h => by cases e <;> simp [D.same] at h ⊢; exact h
  | .str a, e, h => by cases e <;> simp [D.same] at h ⊢; exact h
  | .stt, e, h => by cases e <;> simp [D.same] at h ⊢
  | .tup xs, e, h => by
    cases e <;> simp [D.same] at h ⊢
    exact D.sameL_eq xs _ h
  | .lst xs, e, h => by
    cases e <;> simp [D.same] at h ⊢
    exact D.sameL_eq xs _ h
  | .dct t xs, e, h => by
    cases e <;> simp [D.same] at h ⊢
    exact ⟨h.1, D.sameK_eq xs _ h.2⟩
theorem D.sameL_eq : ∀ d e : List D, D.sameL d e = true → d = e
  | [], e, h => by cases e <;> simp [D.sameL] at h ⊢
  | x :: xs, e, h => by
    cases e <;> simp [D.sameL] at h ⊢
    exact ⟨D.same_eq x _ h.1, D.sameL_eq xs _ h.2⟩
theorem D.sameK_eq : ∀ d e : List (D × D), D.sameK d e = true → d = e
  | [], e, h => by cases e <;> simp [D.sameK] at h ⊢
  | (x, u) :: xs, e, h => by
    cases e with
    | nil => simp [D.sameK] at h
    | cons p ys =>
      obtain ⟨y, v⟩ := p
      simp [D.sameK] at h ⊢
      exact ⟨⟨D.same_eq x _ h.1, D.same_eq u _ h.2.1⟩, D.sameK_eq xs _ h.2.2⟩
end
def Sl.same : Option Sl → Option Sl → Bool
  | none, none => true
  | some (.val a), some (.val b) => D.same a b
  | some (.own a), some (.own b) => D.same a b
  | some (.bor a), some (.bor b) => D.same a b
  | _, _ => false
def envSame : DEnv → DEnv → Bool
  | [], [] => true
  | a :: as, b :: bs => Sl.same a b && envSame as bs
  | _, _ => false
theorem Sl.same_eq : ∀ a b : Option Sl, Sl.same a b = true → a = b
  | none, none, _ => rfl
  | some (.val a), some (.val b), h => by rw [D.same_eq a b h]
  | some (.own a), some (.own b), h => by rw [D.same_eq a b h]
  | some (.bor a), some (.bor b), h => by rw [D.same_eq a b h]
  | none, some _, h => by cases h
  | some (.val _), none, h => by cases h
  | some (.own _), none, h => by cases h
  | some (.bor _), none, h => by cases h
  | some (.val _), some (.own _), h => by cases h
  | some (.val _), some (.bor _), h => by cases h
  | some (.own _), some (.val _), h => by cases h
  | some (.own _), some (.bor _), h => by cases h
  | some (.bor _), some (.val _), h => by cases h
  | some (.bor _), some (.own _), h => by cases h
theorem envSame_eq : ∀ a b : DEnv, envSame a b = true → a = b
  | [], [], _ => rfl
  | a :: as, b :: bs, h => by
    simp only [envSame, Bool.and_eq_true] at h
    rw [Sl.same_eq a b h.1, envSame_eq as bs h.2]
  | [], _ :: _, h => by cases h
  | _ :: _, [], h => by cases h
end DL

set_option Elab.async false
set_option linter.all false
set_option maxRecDepth 100000
/-! DL17: mirrors by functions over plain data: what a mirror does is told by a function without frames. -/
namespace DL
open PySem PySem.Spec L2
open PyProof.Rows hiding St

/-- texts that are the same, quickly -/
def natsEqB : List Nat → List Nat → Bool
  | [], [] => true
  | a :: as, b :: bs => Nat.beq a b && natsEqB as bs
  | _, _ => false
theorem natsEqB_iff : ∀ a b : List Nat, natsEqB a b = true ↔ a = b
  | [], [] => by simp [natsEqB]
  | [], b :: bs => by simp [natsEqB]
  | a :: as, [] => by simp [natsEqB]
  | a :: as, b :: bs => by
    rw [natsEqB, Bool.and_eq_true, natsEqB_iff as bs, List.cons.injEq]
    exact and_congr_left' (by rw [Nat.beq_eq])
theorem strEq_iff (a b : Str) : natsEqB a.cps.toList b.cps.toList = true ↔ a = b := by
  rw [natsEqB_iff]
  constructor
  · intro h
    obtain ⟨⟨x⟩⟩ := a
    obtain ⟨⟨y⟩⟩ := b
    cases h; rfl
  · rintro rfl; rfl
instance (priority := 2000) fastStr : DecidableEq Str := fun a b => decidable_of_bool _ (strEq_iff a b)
/-- m does what t tells: what holds of all that stands for t's results holds of m's -/
structure Rf {α δ : Type} (R : α → δ → Prop) (m : M δ) (t : M α) : Prop where
  of ::
  run : ∀ P : δ → Prop, (t.wp fun a => ∀ d, R a d → P d) → m.wp P
section
variable {α β γ δ ε : Type} {R : α → δ → Prop}
theorem Rf.ret {a : α} {d : δ} (h : R a d) : Rf R (.ret d) (.ret a) := .of fun P q => q d h
theorem Rf.fail {m : M δ} : Rf R m .fail := .of fun P q => q.elim
theorem Rf.bind {R' : β → ε → Prop} {m : M δ} {t : M α} {g : δ → M ε} {h : α → M β} (a : Rf R m t) (b : ∀ x d, R x d → Rf R' (g d) (h x)) : Rf R' (m >>= g) (t >>= h) := .of fun P q =>
  M.wp_bind.mpr (a.run _ (M.wp_mono (M.wp_bind.mp q) fun x q d r => (b x d r).run P q))
theorem Rf.ask {k : Int} {f : Int → M δ} {g : Int → M α} (h : ∀ i, Rf R (f i) (g i)) : Rf R (.ask k f) (.ask k g) := .of fun P q => ⟨q.1, fun r h1 h2 => (h r).run P (q.2 r h1 h2)⟩
theorem Rf.mono {R' : α → δ → Prop} {m : M δ} {t : M α} (h : Rf R m t) (w : ∀ a d, R a d → R' a d) : Rf R' m t := .of fun P q => h.run P (M.wp_mono q fun a q d r => q d (w a d r))
theorem Rf.wp {m : M δ} {t : M α} (h : Rf R m t) {P : δ → Prop} (q : t.wp fun a => ∀ d, R a d → P d) : m.wp P := h.run P q
end
/-- the value that stands for a -/
def Re {α : Type} (e : α → D) : α → D → Prop := fun a d => d = e a
abbrev Ev {α : Type} (e : α → D) (m : M D) (t : M α) : Prop := Rf (Re e) m t
def Rb : Bool → Bool → Prop := fun a b => b = a
abbrev EvT (m : M Bool) (t : M Bool) : Prop := Rf Rb m t

/-! ### plain data as trees -/
def eI : Int → D := .int
def eS : Str → D := .str
def eB : Bool → D := .bl
def eN : Unit → D := fun _ => .non
def eD : D → D := id
def eL {α : Type} (e : α → D) : List α → D := fun xs => .lst (xs.map e)
/-- tuples of any length -/
def eV {α : Type} (e : α → D) : List α → D := fun xs => .tup (xs.map e)
def eT1 {α : Type} (e : α → D) : α → D := fun a => .tup [e a]
def eT2 {α β : Type} (e : α → D) (f : β → D) : α × β → D := fun p => .tup [e p.1, f p.2]
def eT3 {α β γ : Type} (e : α → D) (f : β → D) (g : γ → D) : α × β × γ → D := fun p => .tup [e p.1, f p.2.1, g p.2.2]
def eT4 {α β γ δ : Type} (e : α → D) (f : β → D) (g : γ → D) (h : δ → D) : α × β × γ × δ → D := fun p => .tup [e p.1, f p.2.1, g p.2.2.1, h p.2.2.2]
def eO {α : Type} (e : α → D) : Option α → D
  | none => .non
  | some a => e a
/-- an encoding that is plain, at most n deep, by which what is the same stands for the same -/
structure Ec {α : Type} [DecidableEq α] (n : Nat) (e : α → D) : Prop where
  pl : ∀ a, (e a).pl n = true
  beq : ∀ a b, D.beq (e a) (e b) = decide (a = b)
mutual
theorem D.pl_mono : ∀ (d : D) {n m : Nat}, n ≤ m → d.pl n = true → d.pl m = true
  | .non, _, _, _, _ => by simp [D.pl]
  | .int _, _, _, _, _ => by simp [D.pl]
  | .str _, _, _, _, _ => by simp [D.pl]
  | .bl _, _, _, _, h => by simp [D.pl] at h
  | .dct _ _, _, _, _, h => by simp [D.pl] at h
  | .stt, _, _, _, h => by simp [D.pl] at h
  | .tup xs, 0, _, _, h => by simp [D.pl] at h
  | .lst xs, 0, _, _, h => by simp [D.pl] at h
  | .tup xs, n + 1, 0, hl, _ => by omega
  | .lst xs, n + 1, 0, hl, _ => by omega
  | .tup xs, n + 1, m + 1, hl, h => by
    simp only [D.pl] at h ⊢
    exact D.plL_mono xs (by omega) h
  | .lst xs, n + 1, m + 1, hl, h => by
    simp only [D.pl] at h ⊢
    exact D.plL_mono xs (by omega) h
theorem D.plL_mono : ∀ (ds : List D) {n m : Nat}, n ≤ m → D.plL n ds = true → D.plL m ds = true
  | [], _, _, _, _ => by simp [D.plL]
  | d :: ds, n, m, hl, h => by
    simp only [D.plL, Bool.and_eq_true] at h ⊢
    exact ⟨D.pl_mono d hl h.1, D.plL_mono ds hl h.2⟩
end
section
variable {α β γ δ : Type} [DecidableEq α] [DecidableEq β] [DecidableEq γ] [DecidableEq δ] {e : α → D} {f : β → D} {g : γ → D} {h : δ → D} {n m k l : Nat}
theorem cI : Ec 0 eI := ⟨fun a => by simp [eI, D.pl], fun a b => by simp [eI, D.beq]⟩
theorem cS : Ec 0 eS := ⟨fun a => by simp [eS, D.pl], fun a b => by simp [eS, D.beq]⟩
theorem cN : Ec 0 eN := ⟨fun a => by simp [eN, D.pl], fun a b => by simp [eN, D.beq]⟩
theorem plL_map (c : Ec n e) : ∀ xs : List α, D.plL n (xs.map e) = true
  | [] => by simp [D.plL]
  | x :: xs => by simp [D.plL, c.pl x, plL_map c xs]
theorem beqL_map (c : Ec n e) : ∀ xs ys : List α, D.beqL (xs.map e) (ys.map e) = decide (xs = ys)
  | [], [] => by simp [D.beqL]
  | [], y :: ys => by simp [D.beqL]
  | x :: xs, [] => by simp [D.beqL]
  | x :: xs, y :: ys => by
    rw [List.map_cons, List.map_cons, D.beqL, c.beq, beqL_map c xs ys]
    by_cases h1 : x = y <;> by_cases h2 : xs = ys <;> simp [h1, h2]
theorem cL (c : Ec n e) : Ec (n + 1) (eL e) := ⟨fun a => by simp only [eL, D.pl]; exact plL_map c a, fun a b => by simp only [eL, D.beq]; exact beqL_map c a b⟩
theorem cV (c : Ec n e) : Ec (n + 1) (eV e) := ⟨fun a => by simp only [eV, D.pl]; exact plL_map c a, fun a b => by simp only [eV, D.beq]; exact beqL_map c a b⟩
theorem cT1 (c : Ec n e) : Ec (n + 1) (eT1 e) := ⟨fun a => by simp [eT1, D.pl, D.plL, c.pl], fun a b => by simp [eT1, D.beq, D.beqL, c.beq]⟩
theorem cT2 (c : Ec n e) (d : Ec m f) : Ec (max n m + 1) (eT2 e f) :=
  ⟨fun a => by simp only [eT2, D.pl, D.plL, D.pl_mono _ (Nat.le_max_left n m) (c.pl a.1), D.pl_mono _ (Nat.le_max_right n m) (d.pl a.2)]; rfl,
   fun a b => by
    obtain ⟨a1, a2⟩ := a
    obtain ⟨b1, b2⟩ := b
    simp only [eT2, D.beq, D.beqL, c.beq, d.beq]
    by_cases h1 : a1 = b1 <;> by_cases h2 : a2 = b2 <;> simp [h1, h2]⟩
theorem cT3 (c : Ec n e) (d : Ec m f) (c3 : Ec k g) : Ec (max n (max m k) + 1) (eT3 e f g) :=
  ⟨fun a => by
    simp only [eT3, D.pl, D.plL, D.pl_mono _ (Nat.le_max_left n (max m k)) (c.pl a.1), D.pl_mono _ (show m ≤ max n (max m k) by omega) (d.pl a.2.1), D.pl_mono _ (show k ≤ max n (max m k) by omega) (c3.pl a.2.2)]; rfl,
   fun a b => by
    obtain ⟨a1, a2, a3⟩ := a
    obtain ⟨b1, b2, b3⟩ := b
    simp only [eT3, D.beq, D.beqL, c.beq, d.beq, c3.beq]
    by_cases h1 : a1 = b1 <;> by_cases h2 : a2 = b2 <;> by_cases h3 : a3 = b3 <;> simp [h1, h2, h3]⟩
end
end DL

set_option Elab.async false
set_option linter.all false
set_option maxRecDepth 100000
/-! DL18: loops of mirrors by loops over plain states. -/
namespace DL
open PySem PySem.Spec L2
open PyProof.Rows hiding St

/-! ### plain loops -/
inductive Fw (σ ρ : Type) where
  | go (s : σ) | brk (s : σ) | back (r : ρ)
def loopM {α σ : Type} (f : α → σ → M σ) : List α → σ → M σ
  | [], s => .ret s
  | x :: xs, s => f x s >>= fun s' => loopM f xs s'
def loopR {α σ ρ : Type} (f : α → σ → M (Fw σ ρ)) : List α → σ → M (Fw σ ρ)
  | [], s => .ret (.go s)
  | x :: xs, s => f x s >>= fun o => match o with
    | .go s' => loopR f xs s'
    | .brk s' => .ret (.go s')
    | .back r => .ret (.back r)
def whileM {σ : Type} (c : σ → M Bool) (f : σ → M σ) : Nat → σ → M σ
  | 0, _ => .fail
  | n + 1, s => c s >>= fun k => if k then f s >>= fun s' => whileM c f n s' else .ret s
def whileR {σ ρ : Type} (c : σ → M Bool) (f : σ → M (Fw σ ρ)) : Nat → σ → M (Fw σ ρ)
  | 0, _ => .fail
  | n + 1, s => c s >>= fun k => if k then f s >>= fun o => match o with
    | .go s' => whileR c f n s'
    | .brk s' => .ret (.go s')
    | .back r => .ret (.back r) else .ret (.go s)
section
variable {α σ ρ : Type} {e : α → D} {eρ : ρ → D} {gg : DG} {mb : DS} {E : σ → DEnv} {E1 : α → σ → DEnv}
/-- goes on, the frame told by s -/
def RN (E : σ → DEnv) : σ → Fl × DEnv → Prop := fun s p => p = (.nx, E s)
/-- a turn's end -/
def RX (E : σ → DEnv) : σ → Fl × DEnv → Prop := fun s p => p = (.nx, E s) ∨ p = (.ct, E s)
def RTn (E : σ → DEnv) (eρ : ρ → D) : Fw σ ρ → Fl × DEnv → Prop
  | .go s, p => p = (.nx, E s) ∨ p = (.ct, E s)
  | .brk s, p => p = (.bk, E s)
  | .back r, p => p.1 = .rt (eρ r)
def RLp (E : σ → DEnv) (eρ : ρ → D) : Fw σ ρ → Fl × DEnv → Prop
  | .go s, p => p = (.nx, E s)
  | .brk _, _ => False
  | .back r, p => p.1 = .rt (eρ r)
theorem rf_loopM {f : α → σ → M σ} (hg : ∀ x s, gg (e x) (E s) = .ret (E1 x s)) (hb : ∀ x s, Rf (RX E) (mb (E1 x s)) (f x s)) : ∀ (xs : List α) (s : σ), Rf (RN E) (mForL gg mb (xs.map e) (E s)) (loopM f xs s)
  | [], s => Rf.ret rfl
  | x :: xs, s => by
    show Rf _ (gg (e x) (E s) >>= fun env1 => mb env1 >>= _) (f x s >>= _)
    rw [hg]
    show Rf _ (mb (E1 x s) >>= _) _
    refine (hb x s).bind fun s' p r => ?_
    have ih := rf_loopM hg hb xs s'
    rcases r with r | r <;> subst r <;> exact ih
theorem rf_loopR {f : α → σ → M (Fw σ ρ)} (hg : ∀ x s, gg (e x) (E s) = .ret (E1 x s)) (hb : ∀ x s, Rf (RTn E eρ) (mb (E1 x s)) (f x s)) : ∀ (xs : List α) (s : σ), Rf (RLp E eρ) (mForL gg mb (xs.map e) (E s)) (loopR f xs s)
  | [], s => Rf.ret rfl
  | x :: xs, s => by
    show Rf _ (gg (e x) (E s) >>= fun env1 => mb env1 >>= _) (f x s >>= _)
    rw [hg]
    show Rf _ (mb (E1 x s) >>= _) _
    refine (hb x s).bind fun o p r => ?_
    cases o with
    | go s' =>
      have ih := rf_loopR hg hb xs s'
      rcases r with r | r <;> subst r <;> exact ih
    | brk s' =>
      have r : p = (.bk, E s') := r
      subst r; exact Rf.ret rfl
    | back r' =>
      obtain ⟨fl, env2⟩ := p
      have r1 : fl = .rt (eρ r') := r
      subst r1; exact Rf.ret rfl
theorem rf_whileM {c : DT} {tc : σ → M Bool} {f : σ → M σ} (hc : ∀ s, EvT (c (E s)) (tc s)) (hb : ∀ s, Rf (RX E) (mb (E s)) (f s)) : ∀ (n : Nat) (s : σ), Rf (RN E) (mWhile c mb n (E s)) (whileM tc f n s)
  | 0, s => Rf.fail
  | n + 1, s => by
    refine (hc s).bind fun k k' hk => ?_
    have hk : k' = k := hk
    subst hk
    cases k' with
    | true =>
      refine (hb s).bind fun s' p r => ?_
      have ih := rf_whileM hc hb n s'
      rcases r with r | r <;> subst r <;> exact ih
    | false => exact Rf.ret rfl
theorem rf_whileR {c : DT} {tc : σ → M Bool} {f : σ → M (Fw σ ρ)} (hc : ∀ s, EvT (c (E s)) (tc s)) (hb : ∀ s, Rf (RTn E eρ) (mb (E s)) (f s)) : ∀ (n : Nat) (s : σ), Rf (RLp E eρ) (mWhile c mb n (E s)) (whileR tc f n s)
  | 0, s => Rf.fail
  | n + 1, s => by
    refine (hc s).bind fun k k' hk => ?_
    have hk : k' = k := hk
    subst hk
    cases k' with
    | true =>
      refine (hb s).bind fun o p r => ?_
      cases o with
      | go s' =>
        have ih := rf_whileR hc hb n s'
        rcases r with r | r <;> subst r <;> exact ih
      | brk s' =>
        have r : p = (.bk, E s') := r
        subst r; exact Rf.ret rfl
      | back r' =>
        obtain ⟨fl, env2⟩ := p
        have r1 : fl = .rt (eρ r') := r
        subst r1; exact Rf.ret rfl
    | false => exact Rf.ret rfl
end

/-! ### expressions -/
section
variable {α β γ δ σ ρ : Type} {R : β → δ → Prop} {e : α → D} {f : β → D}
theorem ev_ret {a : α} {m : M D} (h : m = .ret (e a)) : Ev e m (.ret a) := by rw [h]; exact Rf.ret rfl
theorem et_ret {a : Bool} {m : M Bool} (h : m = .ret a) : EvT m (.ret a) := by rw [h]; exact Rf.ret rfl
theorem x_bind {m : M D} {t : M α} {g : D → M δ} {k : α → M β} (a : Ev e m t) (b : ∀ x, Rf R (g (e x)) (k x)) : Rf R (m >>= g) (t >>= k) := a.bind fun x d r => by
  have r : d = e x := r
  subst r; exact b x
theorem x_bindP {m : M D} {d : D} {g : D → M δ} {t : M β} (a : m = .ret d) (b : Rf R (g d) t) : Rf R (m >>= g) t := by rw [a]; exact b
theorem x_test {m : M Bool} {t : M Bool} {g : Bool → M δ} {k : Bool → M β} (a : EvT m t) (b : ∀ x, Rf R (g x) (k x)) : Rf R (m >>= g) (t >>= k) := a.bind fun x d r => by
  have r : d = x := r
  subst r; exact b d
theorem x_testP {m : M Bool} {k : Bool} {g : Bool → M δ} {t : M β} (a : m = .ret k) (b : Rf R (g k) t) : Rf R (m >>= g) t := by rw [a]; exact b
/-- arguments, from the left -/
theorem a_cons {ma : DE} {ms : DA} {env : DEnv} {t : M α} {g : List D → M δ} {k : α → M β} (a : Ev e (ma env) t) (b : ∀ x, Rf R (ms env >>= fun xs => g (e x :: xs)) (k x)) : Rf R (aCons ma ms env >>= g) (t >>= k) := by
  have h : (aCons ma ms env >>= g) = (ma env >>= fun x => ms env >>= fun xs => g (x :: xs)) := by
    show ((ma env).bind fun x => (ms env).bind fun xs => M.ret (x :: xs)).bind g = _
    rw [M.bind_assoc']
    congr 1; funext x
    rw [M.bind_assoc'] <;> rfl
  rw [h]
  exact x_bind a b
theorem a_consP {ma : DE} {ms : DA} {env : DEnv} {d : D} {g : List D → M δ} {t : M β} (a : ma env = .ret d) (b : Rf R (ms env >>= fun xs => g (d :: xs)) t) : Rf R (aCons ma ms env >>= g) t := by
  have h : (aCons ma ms env >>= g) = (ma env >>= fun x => ms env >>= fun xs => g (x :: xs)) := by
    show ((ma env).bind fun x => (ms env).bind fun xs => M.ret (x :: xs)).bind g = _
    rw [M.bind_assoc']
    congr 1; funext x
    rw [M.bind_assoc'] <;> rfl
  rw [h]
  exact x_bindP a b
theorem p_nil {env : DEnv} : aNil env = .ret [] := rfl
theorem p_cons {ma : DE} {ms : DA} {env : DEnv} {d : D} {ds : List D} (a : ma env = .ret d) (b : ms env = .ret ds) : aCons ma ms env = .ret (d :: ds) := by
  unfold aCons; rw [a]; show (ms env >>= _) = _; rw [b]; rfl
theorem p_call {op : List D → M D} {ms : DA} {env : DEnv} {ds : List D} {d : D} (a : ms env = .ret ds) (h : op ds = .ret d) : mCall op ms env = .ret d := by
  unfold mCall; rw [a]; exact h
theorem p_bin {op : D → D → M D} {ma mb : DE} {env : DEnv} {x y z : D} (a : ma env = .ret x) (b : mb env = .ret y) (h : op x y = .ret z) : mBin op ma mb env = .ret z := by
  unfold mBin; rw [a]; show (mb env >>= _) = _; rw [b]; exact h
theorem p_binT {op : D → D → M D} {ma mb : DE} {env : DEnv} {x y : D} {k : Bool} (a : ma env = .ret x) (b : mb env = .ret y) (h : op x y = .ret (.bl k)) : mBinT op ma mb env = .ret k := by
  unfold mBinT; rw [p_bin a b h]; rfl
theorem p_and {ta tb : DT} {env : DEnv} {a b : Bool} (ha : ta env = .ret a) (hb : tb env = .ret b) : mAnd ta tb env = .ret (a && b) := by
  unfold mAnd; rw [ha]; cases a
  · rfl
  · exact hb
theorem p_or {ta tb : DT} {env : DEnv} {a b : Bool} (ha : ta env = .ret a) (hb : tb env = .ret b) : mOr ta tb env = .ret (a || b) := by
  unfold mOr; rw [ha]; cases a
  · exact hb
  · rfl
theorem p_not {ta : DT} {env : DEnv} {a : Bool} (ha : ta env = .ret a) : mNot ta env = .ret (!a) := by
  unfold mNot; rw [ha]; rfl
theorem p_tru {m : DE} {env : DEnv} {d : D} {k : Bool} (a : m env = .ret d) (h : truM d = .ret k) : mTru m env = .ret k := by
  unfold mTru; rw [a]; exact h
/-- tests that do not come out at once -/
theorem r_and {ta tb : DT} {env : DEnv} {a b : M Bool} (ha : EvT (ta env) a) (hb : EvT (tb env) b) : EvT (mAnd ta tb env) (a >>= fun k => if k then b else .ret false) := x_test ha fun k => by
  cases k
  · exact Rf.ret rfl
  · exact hb
theorem r_or {ta tb : DT} {env : DEnv} {a b : M Bool} (ha : EvT (ta env) a) (hb : EvT (tb env) b) : EvT (mOr ta tb env) (a >>= fun k => if k then .ret true else b) := x_test ha fun k => by
  cases k
  · exact hb
  · exact Rf.ret rfl
theorem r_andP {ta tb : DT} {env : DEnv} {a : Bool} {b : M Bool} (ha : ta env = .ret a) (hb : EvT (tb env) b) : EvT (mAnd ta tb env) (if a then b else .ret false) := x_testP ha (by
  cases a
  · exact Rf.ret rfl
  · exact hb)
theorem r_orP {ta tb : DT} {env : DEnv} {a : Bool} {b : M Bool} (ha : ta env = .ret a) (hb : EvT (tb env) b) : EvT (mOr ta tb env) (if a then .ret true else b) := x_testP ha (by
  cases a
  · exact hb
  · exact Rf.ret rfl)
theorem r_not {ta : DT} {env : DEnv} {a : M Bool} (ha : EvT (ta env) a) : EvT (mNot ta env) (a >>= fun k => .ret !k) := x_test ha fun k => Rf.ret rfl
theorem r_asB {m : M D} {t : M Bool} (h : Ev eB m t) : EvT (m >>= asB) t := .of fun P q => M.wp_bind.mpr (h.run _ (M.wp_mono q fun a q d r => by
  have r : d = eB a := r
  subst r; exact q a rfl))
/-! ### what is done to plain data -/
theorem dEq_pl {d d' : D} (h : d.pl 64 = true) (h' : d'.pl 64 = true) : dEq d d' = .ret (.bl (D.beq d d')) := by
  cases d <;> first | (simp [D.pl] at h; done) | (unfold dEq; simp only [h, h']; rfl)
theorem dNe_pl {d d' : D} (h : d.pl 64 = true) (h' : d'.pl 64 = true) : dNe d d' = .ret (.bl (!D.beq d d')) := by
  cases d <;> first | (simp [D.pl] at h; done) | (unfold dNe; simp only [h, h']; rfl)
section
variable [DecidableEq α] {n : Nat}
theorem o_eqE (c : Ec n e) (hn : n ≤ 64 := by decide) (a b : α) : dEq (e a) (e b) = .ret (eB (decide (a = b))) := by
  rw [dEq_pl (D.pl_mono _ hn (c.pl a)) (D.pl_mono _ hn (c.pl b)), c.beq]; rfl
theorem o_neE (c : Ec n e) (hn : n ≤ 64 := by decide) (a b : α) : dNe (e a) (e b) = .ret (eB (!decide (a = b))) := by
  rw [dNe_pl (D.pl_mono _ hn (c.pl a)) (D.pl_mono _ hn (c.pl b)), c.beq]; rfl
theorem memD_map (c : Ec n e) (a : α) : ∀ xs : List α, memD (e a) (xs.map e) = decide (a ∈ xs)
  | [] => by simp [memD]
  | x :: xs => by
    have ih := memD_map c a xs
    unfold memD at ih ⊢
    rw [List.map_cons, List.any_cons, ih, c.beq]
    by_cases h : x = a
    · simp [h]
    · have h' : ¬ a = x := fun z => h z.symm
      simp [h, h']
theorem o_inL (c : Ec n e) (hn : n ≤ 63 := by decide) (a : α) (xs : List α) : dInX (e a) (eL e xs) = .ret (eB (decide (a ∈ xs))) := by
  show dIn (e a) (.lst (xs.map e)) = _
  have h1 := D.pl_mono _ hn (c.pl a)
  have h2 := D.plL_mono _ hn (plL_map c xs)
  cases hd : e a <;> rw [hd] at h1 <;> first | (simp [D.pl] at h1; done) | (unfold dIn; simp only [h1, h2]; rw [← hd, memD_map c]; rfl)
theorem o_inV (c : Ec n e) (hn : n ≤ 63 := by decide) (a : α) (xs : List α) : dInX (e a) (eV e xs) = .ret (eB (decide (a ∈ xs))) := by
  show dIn (e a) (.tup (xs.map e)) = _
  have h1 := D.pl_mono _ hn (c.pl a)
  have h2 := D.plL_mono _ hn (plL_map c xs)
  cases hd : e a <;> rw [hd] at h1 <;> first | (simp [D.pl] at h1; done) | (unfold dIn; simp only [h1, h2]; rw [← hd, memD_map c]; rfl)
theorem o_notInL (c : Ec n e) (hn : n ≤ 63 := by decide) (a : α) (xs : List α) : dNotInX (e a) (eL e xs) = .ret (eB (!decide (a ∈ xs))) := by
  show dNotIn (e a) (.lst (xs.map e)) = _
  have h1 := D.pl_mono _ hn (c.pl a)
  have h2 := D.plL_mono _ hn (plL_map c xs)
  cases hd : e a <;> rw [hd] at h1 <;> first | (simp [D.pl] at h1; done) | (unfold dNotIn; simp only [h1, h2]; rw [← hd, memD_map c]; rfl)
theorem o_notInV (c : Ec n e) (hn : n ≤ 63 := by decide) (a : α) (xs : List α) : dNotInX (e a) (eV e xs) = .ret (eB (!decide (a ∈ xs))) := by
  show dNotIn (e a) (.tup (xs.map e)) = _
  have h1 := D.pl_mono _ hn (c.pl a)
  have h2 := D.plL_mono _ hn (plL_map c xs)
  cases hd : e a <;> rw [hd] at h1 <;> first | (simp [D.pl] at h1; done) | (unfold dNotIn; simp only [h1, h2]; rw [← hd, memD_map c]; rfl)
end
theorem o_lenL (xs : List α) : dLen [eL e xs] = .ret (eI xs.length) := by show M.ret (D.int (xs.map e).length) = _; rw [List.length_map]; rfl
theorem o_lenV (xs : List α) : dLen [eV e xs] = .ret (eI xs.length) := by show M.ret (D.int (xs.map e).length) = _; rw [List.length_map]; rfl
theorem cutD_map (xs : List α) (lo hi : Option Int) : cutD (xs.map e) lo hi = (cutD xs lo hi).map e := by
  unfold cutD; rw [List.length_map, List.map_take, List.map_drop]
theorem o_slL (xs : List α) (lo hi : Option Int) : dSl (eL e xs) lo hi = .ret (eL e (cutD xs lo hi)) := by show M.ret (D.lst (cutD (xs.map e) lo hi)) = _; rw [cutD_map]; rfl
theorem o_slV (xs : List α) (lo hi : Option Int) : dSl (eV e xs) lo hi = .ret (eV e (cutD xs lo hi)) := by show M.ret (D.tup (cutD (xs.map e) lo hi)) = _; rw [cutD_map]; rfl
theorem o_slLF (xs : List α) (lo hi : Option Int) : dSlL (eL e xs) lo hi = .ret (eL e (cutD xs lo hi)) := by show M.ret (D.lst (cutD (xs.map e) lo hi)) = _; rw [cutD_map]; rfl
def ixM (xs : List α) (i : Int) : M α := M.opt (atI xs i)
theorem atI_map (xs : List α) (i : Int) : atI (xs.map e) i = (atI xs i).map e := by
  unfold atI
  rw [List.length_map]
  cases ixN xs.length i with
  | none => rfl
  | some j => show (xs.map e)[j]? = _; rw [List.getElem?_map]; rfl
theorem r_ix (xs : List α) (i : Int) : Ev e (dIx (eL e xs) (eI i)) (ixM xs i) := by
  show Ev e (M.opt (atI (xs.map e) i)) (M.opt (atI xs i))
  rw [atI_map]
  cases atI xs i with
  | none => exact Rf.fail
  | some a => exact Rf.ret rfl
theorem r_ixV (xs : List α) (i : Int) : Ev e (dIx (eV e xs) (eI i)) (ixM xs i) := r_ix xs i
def catM (xs ys : List α) : M (List α) := if xs.length + ys.length ≤ sizeLine then .ret (xs ++ ys) else .fail
theorem r_cat (xs ys : List α) : Ev (eL e) (dAdd (eL e xs) (eL e ys)) (catM xs ys) := by
  show Ev (eL e) (if (xs.map e).length + (ys.map e).length ≤ sizeLine then .ret (.lst (xs.map e ++ ys.map e)) else .fail) _
  rw [List.length_map, List.length_map, ← List.map_append]
  unfold catM
  split
  · exact Rf.ret rfl
  · exact Rf.fail
theorem r_catV (xs ys : List α) : Ev (eV e) (dAdd (eV e xs) (eV e ys)) (catM xs ys) := by
  show Ev (eV e) (if (xs.map e).length + (ys.map e).length ≤ sizeLine then .ret (.tup (xs.map e ++ ys.map e)) else .fail) _
  rw [List.length_map, List.length_map, ← List.map_append]
  unfold catM
  split
  · exact Rf.ret rfl
  · exact Rf.fail
end
end DL

set_option Elab.async false
set_option linter.all false
set_option maxRecDepth 100000
/-! DL19: statements of mirrors by plain functions. -/
namespace DL
open PySem PySem.Spec L2
open PyProof.Rows hiding St

/-- a def's result: what it returns; None at its end -/
def RFn {ρ : Type} (eρ : ρ → D) : ρ → Fl × DEnv → Prop := fun r p => p.1 = .rt (eρ r) ∨ (p.1 = .nx ∧ eρ r = .non)
/-- .. and it does not go on -/
def RR {α : Type} (R : α → Fl × DEnv → Prop) : α → Fl × DEnv → Prop := fun a p => p.1 ≠ .nx ∧ R a p
section
variable {α β γ δ σ ρ : Type} {R : β → Fl × DEnv → Prop} {e : α → D} {eρ : ρ → D} {env env' : DEnv} {me : DE} {rest m a b : DS} {c : DT} {i j : Nat} {d d' : D} {E : σ → DEnv} {ws : List Nat}
theorem rf_fn {N : Nat} {bs : List Bool} {mb : DS} {ds : List D} {t : M ρ} (h : Rf (RFn eρ) (mb (envOf N bs ds)) t) : Ev eρ (fnM N bs mb ds) t := .of fun P q => by
  unfold fnM
  refine M.wp_bind.mpr (h.run _ (M.wp_mono q fun r q p hp => ?_))
  obtain ⟨fl, en⟩ := p
  rcases hp with hp | ⟨h1, h2⟩
  · have hp : fl = .rt (eρ r) := hp
    subst hp; exact q _ rfl
  · have h1 : fl = .nx := h1
    subst h1
    exact q _ h2.symm
theorem s_setP {t : M β} (h : me env = .ret d) (k : Rf R (rest (env.set i (some (.val d)))) t) : Rf R (mSeq (mSetV i me) rest env) t := by
  unfold mSeq mSetV; rw [h]; exact k
theorem s_setE {t1 : M α} {t : α → M β} (h : Ev e (me env) t1) (k : ∀ x, Rf R (rest (env.set i (some (.val (e x))))) (t x)) : Rf R (mSeq (mSetV i me) rest env) (t1 >>= t) := by
  have q : mSeq (mSetV i me) rest env = (me env >>= fun d => rest (env.set i (some (.val d)))) := by
    show ((me env).bind fun d => M.ret (Fl.nx, env.set i (some (.val d)))).bind _ = _
    rw [M.bind_assoc']; rfl
  rw [q]; exact x_bind h k
theorem s_setOP {t : M β} (h : me env = .ret d) (k : Rf R (rest (env.set i (some (.own d)))) t) : Rf R (mSeq (mSetO i me) rest env) t := by
  unfold mSeq mSetO; rw [h]; exact k
theorem s_setOE {t1 : M α} {t : α → M β} (h : Ev e (me env) t1) (k : ∀ x, Rf R (rest (env.set i (some (.own (e x))))) (t x)) : Rf R (mSeq (mSetO i me) rest env) (t1 >>= t) := by
  have q : mSeq (mSetO i me) rest env = (me env >>= fun d => rest (env.set i (some (.own d)))) := by
    show ((me env).bind fun d => M.ret (Fl.nx, env.set i (some (.own d)))).bind _ = _
    rw [M.bind_assoc']; rfl
  rw [q]; exact x_bind h k
theorem s_asgP {gg : DG} {t : M β} (h : me env = .ret d) (hg : gg d env = .ret env') (k : Rf R (rest env') t) : Rf R (mSeq (mAsg gg me) rest env) t := by
  unfold mSeq mAsg; rw [h]
  show Rf R ((gg d env >>= _) >>= _) t
  rw [hg]; exact k
theorem s_asgE {gg : DG} {E' : α → DEnv} {t1 : M α} {t : α → M β} (h : Ev e (me env) t1) (hg : ∀ x, gg (e x) env = .ret (E' x)) (k : ∀ x, Rf R (rest (E' x)) (t x)) : Rf R (mSeq (mAsg gg me) rest env) (t1 >>= t) := by
  have q : mSeq (mAsg gg me) rest env = (me env >>= fun d => gg d env >>= fun env' => rest env') := by
    show ((me env).bind fun d => (gg d env).bind fun env' => M.ret (Fl.nx, env')).bind _ = _
    rw [M.bind_assoc']
    congr 1; funext d
    rw [M.bind_assoc']; rfl
  rw [q]
  refine x_bind h fun x => ?_
  rw [hg]; exact k x
theorem s_parP {ms : DA} {t : M β} (h : ms env = .ret [d, d']) (k : Rf R (rest ((env.set i (some (.val d))).set j (some (.val d')))) t) : Rf R (mSeq (mPar i j ms) rest env) t := by
  unfold mSeq mPar; rw [h]; exact k
def parK (i j : Nat) (rest : DS) (env : DEnv) : List D → M (Fl × DEnv) := fun ds => match ds with
  | [d, d'] => rest ((env.set i (some (.val d))).set j (some (.val d')))
  | _ => .fail
theorem s_parK {ms : DA} {t : M β} (h : Rf R (ms env >>= parK i j rest env) t) : Rf R (mSeq (mPar i j ms) rest env) t := by
  have q : mSeq (mPar i j ms) rest env = (ms env >>= parK i j rest env) := by
    show ((ms env).bind fun ds => _).bind _ = (ms env).bind _
    rw [M.bind_assoc']
    congr 1; funext ds
    match ds with
    | [] => rfl
    | [_] => rfl
    | [_, _] => rfl
    | _ :: _ :: _ :: _ => rfl
  rw [q]; exact h
theorem s_retP {r : ρ} {x : β} (hR : ∀ en, R x (.rt (eρ r), en)) (h : me env = .ret (eρ r)) : Rf R (mRet me env) (.ret x) := by
  unfold mRet; rw [h]; exact Rf.ret (hR env)
theorem s_retE {t : M ρ} {f : ρ → β} (hR : ∀ r en, R (f r) (.rt (eρ r), en)) (h : Ev eρ (me env) t) : Rf R (mRet me env) (t >>= fun r => .ret (f r)) := x_bind h fun r => Rf.ret (hR r env)
theorem s_retF {t : M ρ} {R : ρ → Fl × DEnv → Prop} (hR : ∀ r en, R r (.rt (eρ r), en)) (h : Ev eρ (me env) t) : Rf R (mRet me env) t := .of fun P q => M.wp_bind.mpr (h.run _ (M.wp_mono q fun r q d hd => by
  have hd : d = eρ r := hd
  subst hd; exact q _ (hR r env)))
theorem s_pass {r : ρ} (h : eρ r = .non) : Rf (RFn eρ) (mPass env) (.ret r) := Rf.ret (.inr ⟨rfl, h⟩)
theorem s_if {tc : M Bool} {ta tb : M β} (ht : EvT (c env) tc) (ha : Rf R (a env) ta) (hb : Rf R (b env) tb) : Rf R (mIf c a b env) (tc >>= fun k => if k then ta else tb) := x_test ht fun k => by
  cases k
  · exact hb
  · exact ha
theorem s_ifP {k : Bool} {ta tb : M β} (ht : c env = .ret k) (ha : Rf R (a env) ta) (hb : Rf R (b env) tb) : Rf R (mIf c a b env) (if k then ta else tb) := x_testP ht (by
  cases k
  · exact hb
  · exact ha)
theorem seq_if : mSeq (mIf c a b) rest env = (c env >>= fun k => if k then mSeq a rest env else mSeq b rest env) := by
  show ((c env).bind fun k => if k then a env else b env).bind _ = _
  rw [M.bind_assoc']
  congr 1; funext k
  cases k <;> rfl
theorem seq_ret' {t : M β} (h : Rf (RR R) (a env) t) : Rf R (mSeq a rest env) t := .of fun P q => M.wp_bind.mpr (h.run _ (M.wp_mono q fun r q p hp => by
  obtain ⟨fl, en⟩ := p
  obtain ⟨h1, h2⟩ := hp
  cases fl with
  | nx => exact absurd rfl h1
  | _ => exact q _ h2))
/-- if the test is so, it returns -/
theorem s_iff {tc : M Bool} {ta tb : M β} (ht : EvT (c env) tc) (ha : Rf (RR R) (a env) ta) (hb : Rf R (mSeq b rest env) tb) : Rf R (mSeq (mIf c a b) rest env) (tc >>= fun k => if k then ta else tb) := by
  rw [seq_if]
  exact x_test ht fun k => by
    cases k
    · exact hb
    · exact seq_ret' ha
theorem s_iffP {k : Bool} {ta tb : M β} (ht : c env = .ret k) (ha : Rf (RR R) (a env) ta) (hb : Rf R (mSeq b rest env) tb) : Rf R (mSeq (mIf c a b) rest env) (if k then ta else tb) := by
  rw [seq_if]
  exact x_testP ht (by
    cases k
    · exact hb
    · exact seq_ret' ha)
/-- a statement that goes on, its state told -/
theorem s_next {tl : M σ} {t : σ → M β} (h : Rf (RN E) (a env) tl) (k : ∀ s, Rf R (rest (E s)) (t s)) : Rf R (mSeq a rest env) (tl >>= t) := h.bind fun s p hp => by
  have hp : p = (.nx, E s) := hp
  subst hp; exact k s
def contR {σ ρ β : Type} (t : σ → M β) (f : ρ → β) : Fw σ ρ → M β
  | .go s => t s
  | .brk _ => .fail
  | .back r => .ret (f r)
/-- .. or returns -/
theorem s_nextR {tl : M (Fw σ ρ)} {t : σ → M β} {f : ρ → β} (hR : ∀ r en, R (f r) (.rt (eρ r), en)) (h : Rf (RLp E eρ) (a env) tl) (k : ∀ s, Rf R (rest (E s)) (t s)) :
    Rf R (mSeq a rest env) (tl >>= contR t f) := h.bind fun o p hp => by
  cases o with
  | go s =>
    have hp : p = (.nx, E s) := hp
    subst hp; exact k s
  | brk s => exact Rf.fail
  | back r =>
    obtain ⟨fl, en⟩ := p
    have hp : fl = .rt (eρ r) := hp
    subst hp; exact Rf.ret (hR r en)
theorem l_for {mi : DI} {gg : DG} {mb : DS} {xs : List α} {R' : γ → Fl × DEnv → Prop} {tl : M γ} (hi : mi env = .ret (xs.map e)) (h : Rf R' (mForL gg mb (xs.map e) env) tl) : Rf R' (mFor mi gg mb env) tl := by
  unfold mFor; rw [hi]; exact h
theorem l_forE {mi : DI} {gg : DG} {mb : DS} {R' : γ → Fl × DEnv → Prop} {tx : M (List α)} {tl : List α → M γ} (hi : Rf (fun xs ds => ds = xs.map e) (mi env) tx) (h : ∀ xs, Rf R' (mForL gg mb (xs.map e) env) (tl xs)) : Rf R' (mFor mi gg mb env) (tx >>= tl) := hi.bind fun xs ds hd => by
  subst hd; exact h xs
/-- ends of blocks -/
theorem e_goN {s : σ} (h : wipeE env ws = E s) : Rf (RN E) (mForget ws mPass env) (.ret s) := by
  show Rf (RN E) (.ret (Fl.nx, wipeE env ws)) _; rw [h]; exact Rf.ret rfl
theorem e_goX {s : σ} (h : wipeE env ws = E s) : Rf (RX E) (mForget ws mPass env) (.ret s) := by
  show Rf (RX E) (.ret (Fl.nx, wipeE env ws)) _; rw [h]; exact Rf.ret (.inl rfl)
theorem e_goT {s : σ} (h : wipeE env ws = E s) : Rf (RTn E eρ) (mForget ws mPass env) (.ret (.go s)) := by
  show Rf (RTn E eρ) (.ret (Fl.nx, wipeE env ws)) _; rw [h]; exact Rf.ret (.inl rfl)
theorem e_goL {s : σ} (h : wipeE env ws = E s) : Rf (RLp E eρ) (mForget ws mPass env) (.ret (.go s)) := by
  show Rf (RLp E eρ) (.ret (Fl.nx, wipeE env ws)) _; rw [h]; exact Rf.ret rfl
theorem e_cntX {s : σ} (h : wipeE env ws = E s) : Rf (RX E) (mForget ws mCnt env) (.ret s) := by
  show Rf (RX E) (.ret (Fl.ct, wipeE env ws)) _; rw [h]; exact Rf.ret (.inr rfl)
theorem e_cntT {s : σ} (h : wipeE env ws = E s) : Rf (RTn E eρ) (mForget ws mCnt env) (.ret (.go s)) := by
  show Rf (RTn E eρ) (.ret (Fl.ct, wipeE env ws)) _; rw [h]; exact Rf.ret (.inr rfl)
theorem s_forget {t : M β} (h : Rf R (m (wipeE env ws)) t) : Rf R (mForget ws m env) t := h
theorem s_frz {t : M β} (h : mFrz i m env = m env') (k : Rf R (m env') t) : Rf R (mFrz i m env) t := by rw [h]; exact k
def appM (xs : List α) (x : α) : M (List α) := if xs.length < sizeLine then .ret (xs ++ [x]) else .fail
theorem s_appP {xs : List α} {x : α} {t : List α → M β} (h : me env = .ret (e x)) (hx : env[i]? = some (some (.own (eL e xs)))) (k : ∀ ys, Rf R (rest (env.set i (some (.own (eL e ys))))) (t ys)) : Rf R (mSeq (mAppend i me) rest env) (appM xs x >>= t) := by
  unfold mSeq mAppend
  rw [h]
  show Rf R ((match env[i]? with
    | some (some (.own (.lst xs))) => if xs.length < sizeLine then M.ret (Fl.nx, env.set i (some (.own (.lst (xs ++ [e x]))))) else .fail
    | _ => .fail) >>= _) _
  rw [hx]
  show Rf R ((if (xs.map e).length < sizeLine then M.ret (Fl.nx, env.set i (some (.own (.lst (xs.map e ++ [e x]))))) else .fail) >>= _) _
  rw [List.length_map]
  unfold appM
  split
  · have q := k (xs ++ [x])
    unfold eL at q
    rw [List.map_append] at q
    exact q
  · exact Rf.fail
theorem s_appE {xs : List α} {t1 : M α} {t : List α → M β} (h : Ev e (me env) t1) (hx : env[i]? = some (some (.own (eL e xs)))) (k : ∀ ys, Rf R (rest (env.set i (some (.own (eL e ys))))) (t ys)) : Rf R (mSeq (mAppend i me) rest env) (t1 >>= fun x => appM xs x >>= t) := by
  have q : mSeq (mAppend i me) rest env = (me env >>= fun d => mSeq (mAppend i (mC d)) rest env) := by
    show ((me env).bind fun d => _).bind _ = _
    rw [M.bind_assoc']; rfl
  rw [q]
  exact x_bind h fun x => s_appP (e := e) rfl hx k
theorem s_extP {xs zs : List α} {t : List α → M β} (h : me env = .ret (eL e zs)) (hx : env[i]? = some (some (.own (eL e xs)))) (k : ∀ ys, Rf R (rest (env.set i (some (.own (eL e ys))))) (t ys)) : Rf R (mSeq (mExtend i me) rest env) (catM xs zs >>= t) := by
  unfold mSeq mExtend
  rw [h]
  show Rf R ((match env[i]?, eL e zs with
    | some (some (.own (.lst xs))), .lst ys => if xs.length + ys.length ≤ sizeLine then M.ret (Fl.nx, env.set i (some (.own (.lst (xs ++ ys))))) else .fail
    | _, _ => .fail) >>= _) _
  rw [hx]
  show Rf R ((if (xs.map e).length + (zs.map e).length ≤ sizeLine then M.ret (Fl.nx, env.set i (some (.own (.lst (xs.map e ++ zs.map e))))) else .fail) >>= _) _
  rw [List.length_map, List.length_map]
  unfold catM
  split
  · have q := k (xs ++ zs)
    unfold eL at q
    rw [List.map_append] at q
    exact q
  · exact Rf.fail
theorem s_extE {xs : List α} {t1 : M (List α)} {t : List α → M β} (h : Ev (eL e) (me env) t1) (hx : env[i]? = some (some (.own (eL e xs)))) (k : ∀ ys, Rf R (rest (env.set i (some (.own (eL e ys))))) (t ys)) : Rf R (mSeq (mExtend i me) rest env) (t1 >>= fun zs => catM xs zs >>= t) := by
  have q : mSeq (mExtend i me) rest env = (me env >>= fun d => mSeq (mExtend i (mC d)) rest env) := by
    show ((me env).bind fun d => _).bind _ = _
    rw [M.bind_assoc']; rfl
  rw [q]
  exact x_bind h fun zs => s_extP (e := e) rfl hx k
end
end DL

set_option Elab.async false
set_option linter.all false
set_option maxRecDepth 100000
/-! DL20: further expressions of mirrors by plain functions. -/
namespace DL
open PySem PySem.Spec L2
open PyProof.Rows hiding St
section
variable {α β γ δ : Type} {R : β → δ → Prop} {e : α → D} {f : β → D} {env : DEnv} {ma mb mc : DE} {op : D → D → M D} {x y z : D}
theorem ev_id (m : M D) : Ev eD m m := .of fun P q => M.wp_mono q fun a h => h a rfl
section
variable {R : γ → D → Prop} {e1 : α → D} {e2 : β → D}
theorem b_PP {t : M γ} (a : ma env = .ret x) (b : mb env = .ret y) (h : Rf R (op x y) t) : Rf R (mBin op ma mb env) t := by
  unfold mBin; rw [a]; show Rf R (mb env >>= _) t; rw [b]; exact h
theorem b_EP {t1 : M α} {k : α → M γ} (a : Ev e1 (ma env) t1) (b : mb env = .ret y) (h : ∀ v, Rf R (op (e1 v) y) (k v)) : Rf R (mBin op ma mb env) (t1 >>= k) := x_bind a fun v => x_bindP b (h v)
theorem b_PE {t1 : M β} {k : β → M γ} (a : ma env = .ret x) (b : Ev e2 (mb env) t1) (h : ∀ v, Rf R (op x (e2 v)) (k v)) : Rf R (mBin op ma mb env) (t1 >>= k) := x_bindP a (x_bind b h)
theorem b_EE {t1 : M α} {t2 : M β} {k : α → β → M γ} (a : Ev e1 (ma env) t1) (b : Ev e2 (mb env) t2) (h : ∀ v w, Rf R (op (e1 v) (e2 w)) (k v w)) : Rf R (mBin op ma mb env) (t1 >>= fun v => t2 >>= fun w => k v w) := x_bind a fun v => x_bind b (h v)
end
theorem t_E {t : M Bool} (h : Ev eB (mBin op ma mb env) t) : EvT (mBinT op ma mb env) t := r_asB h
theorem a_nil {ρ δ : Type} {R : ρ → δ → Prop} {g : List D → M δ} {t : M ρ} (h : Rf R (g []) t) : Rf R (aNil env >>= g) t := h
theorem c_call {ρ : Type} {R : ρ → D → Prop} {op : List D → M D} {ms : DA} {t : M ρ} (h : Rf R (ms env >>= op) t) : Rf R (mCall op ms env) t := h
theorem p_len {n : Nat} (h : n ≤ 1000 := by decide) : n ≤ sizeLine := by rw [sizeLine_eq]; omega
theorem p_tup {ms : DA} {ds : List D} (a : ms env = .ret ds) (h : ds.length ≤ sizeLine) : mTup ms env = .ret (.tup ds) := by
  unfold mTup; rw [a]; show (if ds.length ≤ sizeLine then _ else _) = _; rw [if_pos h]
theorem p_lst {ms : DA} {ds : List D} (a : ms env = .ret ds) (h : ds.length ≤ sizeLine) : mLst ms env = .ret (.lst ds) := by
  unfold mLst; rw [a]; show (if ds.length ≤ sizeLine then _ else _) = _; rw [if_pos h]
theorem r_tup {ρ : Type} {R : ρ → D → Prop} {ms : DA} {t : M ρ} (h : Rf R (ms env >>= fun xs => if xs.length ≤ sizeLine then .ret (.tup xs) else .fail) t) : Rf R (mTup ms env) t := h
theorem r_lst {ρ : Type} {R : ρ → D → Prop} {ms : DA} {t : M ρ} (h : Rf R (ms env >>= fun xs => if xs.length ≤ sizeLine then .ret (.lst xs) else .fail) t) : Rf R (mLst ms env) t := h
theorem k_disp {ρ : Type} {R : ρ → D → Prop} {ds : List D} {d : D} {r : ρ} (h : ds.length ≤ sizeLine) (hr : R r d) : Rf R (if ds.length ≤ sizeLine then .ret d else .fail) (.ret r) := by rw [if_pos h]; exact Rf.ret hr
theorem p_ifE {c : DT} {k : Bool} (a : c env = .ret k) {va vb : α} (ha : ma env = .ret (e va)) (hb : mb env = .ret (e vb)) : mIfE c ma mb env = .ret (e (if k then va else vb)) := by
  unfold mIfE; rw [a]; cases k
  · exact hb
  · exact ha
theorem r_ifE {c : DT} {tc : M Bool} {ta tb : M α} (a : EvT (c env) tc) (ha : Ev e (ma env) ta) (hb : Ev e (mb env) tb) : Ev e (mIfE c ma mb env) (tc >>= fun k => if k then ta else tb) := x_test a fun k => by
  cases k
  · exact hb
  · exact ha
theorem r_ifEP {c : DT} {k : Bool} {ta tb : M α} (a : c env = .ret k) (ha : Ev e (ma env) ta) (hb : Ev e (mb env) tb) : Ev e (mIfE c ma mb env) (if k then ta else tb) := x_testP a (by
  cases k
  · exact hb
  · exact ha)
/-- and, or, not of truth values -/
theorem p_andV {a b : Bool} (ha : ma env = .ret (eB a)) (hb : mb env = .ret (eB b)) : mAndV ma mb env = .ret (eB (a && b)) := by
  unfold mAndV; rw [ha]; cases a
  · rfl
  · exact hb
theorem p_orV {a b : Bool} (ha : ma env = .ret (eB a)) (hb : mb env = .ret (eB b)) : mOrV ma mb env = .ret (eB (a || b)) := by
  unfold mOrV; rw [ha]; cases a
  · exact hb
  · rfl
theorem p_notV {d : D} {k : Bool} (ha : ma env = .ret d) (h : truM d = .ret k) : mNotV ma env = .ret (eB !k) := by
  unfold mNotV; rw [ha]; show (truM d >>= _) = _; rw [h]; rfl
theorem r_andV {a b : M Bool} (ha : Ev eB (ma env) a) (hb : Ev eB (mb env) b) : Ev eB (mAndV ma mb env) (a >>= fun k => if k then b else .ret false) := x_bind ha fun k => by
  cases k
  · exact Rf.ret rfl
  · exact hb
theorem r_orV {a b : M Bool} (ha : Ev eB (ma env) a) (hb : Ev eB (mb env) b) : Ev eB (mOrV ma mb env) (a >>= fun k => if k then .ret true else b) := x_bind ha fun k => by
  cases k
  · exact hb
  · exact Rf.ret rfl
theorem r_truE {t : M α} {f : α → Bool} (ha : Ev e (ma env) t) (h : ∀ a, truM (e a) = .ret (f a)) : EvT (mTru ma env) (t >>= fun a => .ret (f a)) := x_bind ha fun a => by rw [h]; exact Rf.ret rfl
theorem t_L (xs : List α) : truM (eL e xs) = .ret (!xs.isEmpty) := by cases xs <;> rfl
theorem t_V (xs : List α) : truM (eV e xs) = .ret (!xs.isEmpty) := by cases xs <;> rfl
theorem nnT1 (a : α) : eT1 e a ≠ .non := fun h => D.noConfusion (show D.tup _ = D.non from h)
theorem nnT2 (a : α × β) : eT2 e f a ≠ .non := fun h => D.noConfusion (show D.tup _ = D.non from h)
theorem nnL (a : List α) : eL e a ≠ .non := fun h => D.noConfusion (show D.lst _ = D.non from h)
theorem nnV (a : List α) : eV e a ≠ .non := fun h => D.noConfusion (show D.tup _ = D.non from h)
theorem nnI (a : Int) : eI a ≠ .non := fun h => D.noConfusion (show D.int _ = D.non from h)
theorem nnS (a : Str) : eS a ≠ .non := fun h => D.noConfusion (show D.str _ = D.non from h)
/-- None or not -/
theorem o_isO (nn : ∀ a, e a ≠ .non) (o : Option α) : dIs (eO e o) .non = .ret (eB o.isNone) := by
  cases o with
  | none => rfl
  | some a =>
    have := nn a
    show dIs (e a) .non = _
    cases h : e a <;> first | (exact absurd h this) | rfl
theorem o_isNotO (nn : ∀ a, e a ≠ .non) (o : Option α) : dIsNot (eO e o) .non = .ret (eB !o.isNone) := by
  cases o with
  | none => rfl
  | some a =>
    have := nn a
    show dIsNot (e a) .non = _
    cases h : e a <;> first | (exact absurd h this) | rfl
theorem r_isD (d : D) : Ev eB (dIs d .non) (.ret (match d with | .non => true | _ => false)) := by cases d <;> exact Rf.ret rfl
/-! what is walked -/
theorem i_L {m : DE} {xs : List α} (h : m env = .ret (eL e xs)) : iOver m env = .ret (xs.map e) := by unfold iOver; rw [h]; rfl
theorem i_V {m : DE} {xs : List α} (h : m env = .ret (eV e xs)) : iOver m env = .ret (xs.map e) := by unfold iOver; rw [h]; rfl
theorem i_LE {m : DE} {t : M (List α)} (h : Ev (eL e) (m env) t) : Rf (fun xs ds => ds = xs.map e) (iOver m env) t := .of fun P q => M.wp_bind.mpr (h.run _ (M.wp_mono q fun a q d r => by
  have r : d = eL e a := r
  subst r; exact q _ rfl))
theorem i_VE {m : DE} {t : M (List α)} (h : Ev (eV e) (m env) t) : Rf (fun xs ds => ds = xs.map e) (iOver m env) t := .of fun P q => M.wp_bind.mpr (h.run _ (M.wp_mono q fun a q d r => by
  have r : d = eV e a := r
  subst r; exact q _ rfl))
def enumT : Nat → List α → List (Int × α)
  | _, [] => []
  | i, x :: xs => ((i : Int), x) :: enumT (i + 1) xs
theorem enum_map : ∀ (i : Nat) (xs : List α), enumD i (xs.map e) = (enumT i xs).map (eT2 eI e)
  | _, [] => rfl
  | i, x :: xs => by rw [List.map_cons, enumD, enumT, List.map_cons, enum_map (i + 1) xs]; rfl
theorem i_enum {m : DE} {xs : List α} (h : m env = .ret (eL e xs)) : iEnumD m env = .ret ((enumT 0 xs).map (eT2 eI e)) := by
  unfold iEnumD; rw [h]; show M.ret (enumD 0 (xs.map e)) = _; rw [enum_map]
theorem i_enumE {m : DE} {t : M (List α)} (h : Ev (eL e) (m env) t) : Rf (fun xs ds => ds = xs.map (eT2 eI e)) (iEnumD m env) (t >>= fun xs => .ret (enumT 0 xs)) := x_bind h fun xs => by
  show Rf _ (.ret (enumD 0 (xs.map e))) _
  rw [enum_map]; exact Rf.ret rfl
def rgT (a b : Int) : List Int := (List.range (b - a).toNat).map fun i => a + (i : Nat)
def rgM (a b : Int) : M (List Int) := if rgOk a b then .ret (rgT a b) else .fail
theorem rg_map (a b : Int) : rgD a b = (rgT a b).map eI := by unfold rgD rgT; rw [List.map_map]; rfl
theorem i_rg1 {m : DE} {b : Int} (h : m env = .ret (eI b)) : Rf (fun xs ds => ds = xs.map eI) (iRg1 m env) (rgM 0 b) := by
  unfold iRg1; rw [h]
  show Rf _ (if rgOk 0 b then M.ret (rgD 0 b) else .fail) _
  unfold rgM
  split
  · exact Rf.ret (rg_map _ _)
  · exact Rf.fail
theorem i_rg1E {m : DE} {t : M Int} (h : Ev eI (m env) t) : Rf (fun xs ds => ds = xs.map eI) (iRg1 m env) (t >>= fun b => rgM 0 b) := x_bind h fun b => by
  show Rf _ (if rgOk 0 b then M.ret (rgD 0 b) else .fail) _
  unfold rgM
  split
  · exact Rf.ret (rg_map _ _)
  · exact Rf.fail
theorem i_rg2 {m m' : DE} {a b : Int} (h : m env = .ret (eI a)) (h' : m' env = .ret (eI b)) : Rf (fun xs ds => ds = xs.map eI) (iRg2 m m' env) (rgM a b) := by
  unfold iRg2; rw [h]; show Rf _ (m' env >>= _) _; rw [h']
  show Rf _ (if rgOk a b then M.ret (rgD a b) else .fail) _
  unfold rgM
  split
  · exact Rf.ret (rg_map _ _)
  · exact Rf.fail
/-! comprehensions -/
def lcM (c : α → M Bool) (f : α → M β) : List α → M (List β)
  | [] => .ret []
  | x :: xs => c x >>= fun k => if k then f x >>= fun y => lcM c f xs >>= fun ys => .ret (y :: ys) else lcM c f xs
theorem lcM_pure (c : α → Bool) (f : α → β) : ∀ xs : List α, lcM (fun x => .ret (c x)) (fun x => .ret (f x)) xs = .ret ((xs.filter c).map f)
  | [] => rfl
  | x :: xs => by
    show (if c x then (lcM _ _ xs >>= fun ys => M.ret (f x :: ys)) else lcM _ _ xs) = _
    rw [lcM_pure c f xs, List.filter_cons]
    cases c x <;> rfl
theorem rf_lcL {gg : DG} {mt : DT} {me : DE} {envw : DEnv} {E1 : α → DEnv} {c : α → M Bool} {g : α → M β} (hg : ∀ x, gg (e x) envw = .ret (E1 x)) (ht : ∀ x, EvT (mt (E1 x)) (c x)) (he : ∀ x, Ev f (me (E1 x)) (g x)) :
    ∀ (xs : List α) (acc : List D), Rf (fun (ys : List β) ds => ds = acc ++ ys.map f) (mLcL gg mt me envw (xs.map e) acc) (lcM c g xs)
  | [], acc => Rf.ret (by simp)
  | x :: xs, acc => by
    show Rf _ (gg (e x) envw >>= fun env1 => mt env1 >>= _) (c x >>= _)
    rw [hg]
    refine x_test (ht x) fun k => ?_
    cases k with
    | true =>
      refine x_bind (he x) fun y => ?_
      have ih := rf_lcL hg ht he xs (acc ++ [f y])
      refine .of fun P q => ?_
      exact ih.run P (M.wp_mono (M.wp_bind.mp q) fun ys q d hd => q d (by rw [hd]; simp))
    | false => exact rf_lcL hg ht he xs acc
theorem r_lcE {vs : List Nat} {mi : DI} {gg : DG} {mt : DT} {me : DE} {E1 : α → DEnv} {tx : M (List α)} {c : α → M Bool} {g : α → M β} (ok : vs.all (notOwn env) = true) (hi : Rf (fun xs ds => ds = xs.map e) (mi env) tx)
    (hg : ∀ x, gg (e x) (wipeE env vs) = .ret (E1 x)) (ht : ∀ x, EvT (mt (E1 x)) (c x)) (he : ∀ x, Ev f (me (E1 x)) (g x)) : Ev (eL f) (mLc vs mi gg mt me env) (tx >>= fun xs => lcM c g xs) := by
  unfold mLc
  rw [if_pos ok]
  refine hi.bind fun xs ds hd => ?_
  subst hd
  refine .of fun P q => ?_
  exact M.wp_bind.mpr ((rf_lcL (f := f) hg ht he xs []).run _ (M.wp_mono q fun ys q d hd => q _ (by rw [hd]; rfl)))
theorem ri_ret {m : M (List D)} {xs : List α} (h : m = .ret (xs.map e)) : Rf (fun xs ds => ds = xs.map e) m (.ret xs) := by rw [h]; exact Rf.ret rfl
theorem r_lc {vs : List Nat} {mi : DI} {gg : DG} {mt : DT} {me : DE} {E1 : α → DEnv} {xs : List α} {c : α → M Bool} {g : α → M β} (ok : vs.all (notOwn env) = true) (hi : mi env = .ret (xs.map e))
    (hg : ∀ x, gg (e x) (wipeE env vs) = .ret (E1 x)) (ht : ∀ x, EvT (mt (E1 x)) (c x)) (he : ∀ x, Ev f (me (E1 x)) (g x)) : Ev (eL f) (mLc vs mi gg mt me env) (lcM c g xs) := r_lcE ok (ri_ret hi) hg ht he
theorem p_lc {vs : List Nat} {mi : DI} {gg : DG} {mt : DT} {me : DE} {E1 : α → DEnv} {xs : List α} {c : α → Bool} {g : α → β} (ok : vs.all (notOwn env) = true) (hi : mi env = .ret (xs.map e))
    (hg : ∀ x, gg (e x) (wipeE env vs) = .ret (E1 x)) (ht : ∀ x, mt (E1 x) = .ret (c x)) (he : ∀ x, me (E1 x) = .ret (f (g x))) : mLc vs mi gg mt me env = .ret (eL f ((xs.filter c).map g)) := by
  have loop : ∀ (xs : List α) (acc : List D), mLcL gg mt me (wipeE env vs) (xs.map e) acc = .ret (acc ++ ((xs.filter c).map g).map f) := by
    intro xs
    induction xs with
    | nil => intro acc; show M.ret acc = _; simp
    | cons x xs ih =>
      intro acc
      show (gg (e x) (wipeE env vs) >>= fun env1 => mt env1 >>= _) = _
      rw [hg]
      show (mt (E1 x) >>= _) = _
      rw [ht, List.filter_cons]
      cases hc : c x with
      | true =>
        show (me (E1 x) >>= _) = _
        rw [he]
        show mLcL gg mt me (wipeE env vs) (xs.map e) (acc ++ [f (g x)]) = _
        rw [ih]; simp
      | false =>
        show mLcL gg mt me (wipeE env vs) (xs.map e) acc = _
        rw [ih]; simp
  unfold mLc
  rw [if_pos ok, hi]
  show (mLcL gg mt me (wipeE env vs) (xs.map e) [] >>= _) = _
  rw [loop]; rfl
end
end DL

set_option Elab.async false
set_option linter.all false
set_option maxRecDepth 100000
/-! DL21: further expressions of mirrors by plain functions: orders, places, numbers. -/
namespace DL
open PySem PySem.Spec L2
open PyProof.Rows hiding St
section
variable {α β γ δ : Type} {R : β → Fl × DEnv → Prop} {e : α → D} {f : β → D} {env : DEnv} {m ma mb mc : DE} {op op' : D → D → M D} {rest : DS} {ws : List Nat}
theorem s_skip {t : M β} (h : Rf R (rest env) t) : Rf R (mSeq mPass rest env) t := h
theorem s_skipF {t : M β} (h : Rf R (rest (wipeE env ws)) t) : Rf R (mSeq (mForget ws mPass) rest env) t := h
theorem ev_some {m : M D} {t : M α} (h : Ev e m t) : Ev (eO e) m (t >>= fun a => .ret (some a)) := .of fun P q => h.run P (M.wp_mono (M.wp_bind.mp q) fun a q => q)
theorem ev_toD {m : M D} {t : M α} (h : Ev e m t) : Ev eD m (t >>= fun a => .ret (e a)) := .of fun P q => h.run P (M.wp_mono (M.wp_bind.mp q) fun a q => q)
theorem p_neg {a : Int} (h : m env = .ret (eI a)) : mNeg m env = .ret (eI (-a)) := by unfold mNeg; rw [h]; rfl
theorem r_neg {t : M Int} (h : Ev eI (m env) t) : Ev eI (mNeg m env) (t >>= fun a => .ret (-a)) := x_bind h fun a => Rf.ret rfl
theorem r_notV {t : M α} {k : α → Bool} (h : Ev e (m env) t) (hk : ∀ a, truM (e a) = .ret (k a)) : Ev eB (mNotV m env) (t >>= fun a => .ret (!k a)) := x_bind h fun a => by rw [hk]; exact Rf.ret rfl
theorem p_TE {k : Bool} (h : m env = .ret (eB k)) : mTE m env = .ret k := by unfold mTE; rw [h]; rfl
theorem t_TE {t : M Bool} (h : Ev eB (m env) t) : EvT (mTE m env) t := r_asB h
theorem p_chain {x y z : D} {a b : Bool} (hx : ma env = .ret x) (hy : mb env = .ret y) (hz : mc env = .ret z) (h1 : op x y = .ret (eB a)) (h2 : op' y z = .ret (eB b)) : mChain op op' ma mb mc env = .ret (eB (a && b)) := by
  unfold mChain
  rw [hx]; show (mb env >>= _) = _; rw [hy]; show ((op x y >>= asB) >>= _) = _; rw [h1]
  cases a
  · rfl
  · show (mc env >>= _) = _; rw [hz]; exact h2
def asBM (m : M D) : M Bool := m >>= asB
def asIM (m : M D) : M Int := m >>= asI
theorem ev_asB (m : M D) : Ev eB m (asBM m) := .of fun P q => M.wp_mono (M.wp_bind.mp q) fun d q => by
  cases d <;> first | exact q.elim | exact q _ rfl
theorem ev_asI (m : M D) : Ev eI m (asIM m) := .of fun P q => M.wp_mono (M.wp_bind.mp q) fun d q => by
  cases d <;> first | exact q.elim | exact q _ rfl
def isNonD : D → Bool
  | .non => true
  | _ => false
theorem o_isD (d : D) : dIs d .non = .ret (eB (isNonD d)) := by cases d <;> rfl
theorem o_isNotD (d : D) : dIsNot d .non = .ret (eB !isNonD d) := by cases d <;> rfl
/-! slices -/
theorem po_n : oNone env = .ret none := rfl
theorem po_s {i : Int} (h : m env = .ret (eI i)) : oSome m env = .ret (some i) := by unfold oSome; rw [h]; rfl
theorem p_sl {lo hi : DO} {l h : Option Int} {x y : D} {g : D → Option Int → Option Int → M D} (a : m env = .ret x) (b : lo env = .ret l) (c : hi env = .ret h) (k : g x l h = .ret y) : mSl g m lo hi env = .ret y := by
  unfold mSl; rw [a]; show (lo env >>= _) = _; rw [b]; show (hi env >>= _) = _; rw [c]; exact k
theorem r_sl {lo hi : DO} {l h : Option Int} {g : D → Option Int → Option Int → M D} {t : M α} {w : α → β} (a : Ev e (m env) t) (b : lo env = .ret l) (c : hi env = .ret h) (k : ∀ x, g (e x) l h = .ret (f (w x))) : Ev f (mSl g m lo hi env) (t >>= fun x => .ret (w x)) := x_bind a fun x => by
  rw [b]; show Rf _ (hi env >>= _) _; rw [c]; show Rf _ (g (e x) l h) _; rw [k]; exact Rf.ret rfl
theorem r_slD {lo hi : DO} {l h : Option Int} {g : D → Option Int → Option Int → M D} {x : D} (a : m env = .ret x) (b : lo env = .ret l) (c : hi env = .ret h) : Ev eD (mSl g m lo hi env) (g x l h) := by
  unfold mSl; rw [a]; show Ev eD (lo env >>= _) _; rw [b]; show Ev eD (hi env >>= _) _; rw [c]; exact ev_id _
theorem r_slDE {lo hi : DO} {l h : Option Int} {g : D → Option Int → Option Int → M D} {t : M D} (a : Ev eD (m env) t) (b : lo env = .ret l) (c : hi env = .ret h) : Ev eD (mSl g m lo hi env) (t >>= fun x => g x l h) := x_bind a fun x => by
  rw [b]; show Rf _ (hi env >>= _) _; rw [c]; exact ev_id _
theorem p_rev {xs : List α} (a : m env = .ret (eL e xs)) : mRev m env = .ret (eL e xs.reverse) := by
  unfold mRev; rw [a]; show M.ret (D.lst (xs.map e).reverse) = _; rw [← List.map_reverse]; rfl
theorem r_rev {t : M (List α)} (a : Ev (eL e) (m env) t) : Ev (eL e) (mRev m env) (t >>= fun xs => .ret xs.reverse) := x_bind a fun xs => by
  show Rf _ (M.ret (D.lst (xs.map e).reverse)) _; rw [← List.map_reverse]; exact Rf.ret rfl
/-! the place of an item -/
def idxT [DecidableEq α] : List α → α → Option Nat
  | [], _ => none
  | x :: xs, y => if x = y then some 0 else (idxT xs y).map (· + 1)
def indexM [DecidableEq α] (xs : List α) (y : α) : M Int := match idxT xs y with
  | some j => .ret (j : Nat)
  | none => .fail
section
variable [DecidableEq α] {n : Nat}
theorem idx_map (c : Ec n e) (y : α) : ∀ xs : List α, idxD (xs.map e) (e y) = idxT xs y
  | [] => rfl
  | x :: xs => by
    have ih := idx_map c y xs
    unfold idxD at ih ⊢
    rw [List.map_cons, List.findIdx?_cons, c.beq, ih, idxT]
    by_cases h : x = y <;> simp [h]
theorem idx_rf (c : Ec n e) (hn : n ≤ 63) (xs : List α) (y : α) : Ev eI (dIndex (xs.map e) [e y]) (indexM xs y) := by
  show Ev eI (if D.pl 63 (e y) && D.plL 63 (xs.map e) then (match idxD (xs.map e) (e y) with
    | some j => M.ret (D.int (j : Nat))
    | none => .fail) else .fail) _
  unfold indexM
  rw [D.pl_mono _ hn (c.pl y), D.plL_mono _ hn (plL_map c xs), idx_map c]
  show Ev eI (match idxT xs y with | some j => M.ret (D.int (j : Nat)) | none => .fail) _
  cases idxT xs y with
  | none => exact Rf.fail
  | some j => exact Rf.ret rfl
theorem r_index (c : Ec n e) (hn : n ≤ 63) {xs : List α} {y : α} (a : ma env = .ret (eL e xs)) (b : mb env = .ret (e y)) : Ev eI (mMeth dIndex ma (aCons mb aNil) env) (indexM xs y) := by
  unfold mMeth; rw [a]; show Ev eI (aCons mb aNil env >>= fun ds => dIndex (xs.map e) ds) _
  exact a_consP b (a_nil (idx_rf c hn xs y))
theorem r_indexE (c : Ec n e) (hn : n ≤ 63) {xs : List α} {t : M α} (a : ma env = .ret (eL e xs)) (b : Ev e (mb env) t) : Ev eI (mMeth dIndex ma (aCons mb aNil) env) (t >>= fun y => indexM xs y) := by
  unfold mMeth; rw [a]; show Ev eI (aCons mb aNil env >>= fun ds => dIndex (xs.map e) ds) _
  exact a_cons b fun y => a_nil (idx_rf c hn xs y)
end
theorem p_lcA {vs : List Nat} {mi : DI} {gg : DG} {me : DE} {E1 : α → DEnv} {xs : List α} {g : α → β} (ok : vs.all (notOwn env) = true) (hi : mi env = .ret (xs.map e))
    (hg : ∀ x, gg (e x) (wipeE env vs) = .ret (E1 x)) (he : ∀ x, me (E1 x) = .ret (f (g x))) : mLc vs mi gg mYes me env = .ret (eL f (xs.map g)) := by
  rw [p_lc (c := fun _ => true) ok hi hg (fun _ => rfl) he]
  congr 2
  rw [List.filter_eq_self.mpr fun _ _ => rfl]
theorem r_lrg1 {b : Int} (h : m env = .ret (eI b)) : Ev (eL eI) (mRgL1 .lst m env) (rgM 0 b) := by
  unfold mRgL1; rw [h]
  show Ev (eL eI) (if rgOk 0 b then M.ret (.lst (rgD 0 b)) else .fail) _
  unfold rgM
  split
  · rw [rg_map]; exact Rf.ret rfl
  · exact Rf.fail
theorem r_lrg1E {t : M Int} (h : Ev eI (m env) t) : Ev (eL eI) (mRgL1 .lst m env) (t >>= fun b => rgM 0 b) := x_bind h fun b => by
  show Ev (eL eI) (if rgOk 0 b then M.ret (.lst (rgD 0 b)) else .fail) _
  unfold rgM
  split
  · rw [rg_map]; exact Rf.ret rfl
  · exact Rf.fail
/-! numbers -/
def mulM (a b : Int) : M Int := if small64 a || small64 b then .ret (a * b) else .fail
def fdivM (a b : Int) : M Int := if decide (0 < b) && decide (b < 2 ^ 30) then .ret (a / b) else .fail
def modM (a b : Int) : M Int := if decide (0 < b) then .ret (a % b) else .fail
def powM (a b : Int) : M Int := if decide (0 ≤ b) && (decide (b ≤ 1000000) && decide (a.natAbs < 2 ^ 64)) then .ret (a ^ b.toNat) else .fail
def shlM (a b : Int) : M Int := if decide (0 ≤ b) && (decide (b ≤ 1000000) && decide (a.natAbs < 2 ^ 64)) then .ret (a * 2 ^ b.toNat) else .fail
theorem rf_ite {c : Bool} {d : Int} : Ev eI (if c then M.ret (D.int d) else .fail) (if c then .ret d else .fail) := by
  cases c
  · exact Rf.fail
  · exact Rf.ret rfl
theorem r_mul (a b : Int) : Ev eI (dMul (eI a) (eI b)) (mulM a b) := rf_ite
theorem r_fdiv (a b : Int) : Ev eI (dFdiv (eI a) (eI b)) (fdivM a b) := rf_ite
theorem r_mod (a b : Int) : Ev eI (dMod (eI a) (eI b)) (modM a b) := rf_ite
theorem r_pow (a b : Int) : Ev eI (dPow (eI a) (eI b)) (powM a b) := rf_ite
theorem r_shl (a b : Int) : Ev eI (dShl (eI a) (eI b)) (shlM a b) := rf_ite
theorem bls_map : ∀ xs : List Bool, blsOf (xs.map eB) = some xs
  | [] => rfl
  | x :: xs => by rw [List.map_cons]; show (blsOf (xs.map eB)).map (x :: ·) = _; rw [bls_map xs]; rfl
theorem ints_map : ∀ xs : List Int, intsOf (xs.map eI) = some xs
  | [] => rfl
  | x :: xs => by rw [List.map_cons]; show (intsOf (xs.map eI)).map (x :: ·) = _; rw [ints_map xs]; rfl
theorem o_all (xs : List Bool) : dAll [eL eB xs] = .ret (eB (xs.all id)) := by
  show (M.opt (blsOf (xs.map eB)) >>= _) = _; rw [bls_map]; rfl
theorem o_any (xs : List Bool) : dAny [eL eB xs] = .ret (eB (xs.any id)) := by
  show (M.opt (blsOf (xs.map eB)) >>= _) = _; rw [bls_map]; rfl
theorem o_sum (xs : List Int) : dSum [eL eI xs] = .ret (eI xs.sum) := by
  show (M.opt (intsOf (xs.map eI)) >>= _) = _; rw [ints_map]; rfl
/-! orders -/
structure Eo {α : Type} (n : Nat) (lt : α → α → Bool) (e : α → D) : Prop where
  pl : ∀ a, (e a).pl n = true
  alk : ∀ a b, D.alk (e a) (e b) = true
  lt : ∀ a b, D.lt (e a) (e b) = lt a b
  ne : ∀ a, D.tupE (e a) = false
  nn : ∀ a, (match e a with | .non => true | _ => false) = false
def ltI (a b : Int) : Bool := decide (a < b)
def ltS (a b : Str) : Bool := natsLt a.cps.toList b.cps.toList
def ltL [DecidableEq α] (lt : α → α → Bool) : List α → List α → Bool
  | [], [] => false
  | [], _ :: _ => true
  | _ :: _, [] => false
  | x :: xs, y :: ys => if x = y then ltL lt xs ys else lt x y
def ltT2 [DecidableEq α] (l1 : α → α → Bool) (l2 : β → β → Bool) (a b : α × β) : Bool := if a.1 = b.1 then (if l2 a.2 b.2 then true else false) else l1 a.1 b.1
theorem qI : Eo 0 ltI eI := ⟨fun a => by simp [eI, D.pl], fun a b => by simp [eI, D.alk], fun a b => by simp [eI, D.lt, ltI], fun a => rfl, fun a => rfl⟩
theorem qS : Eo 0 ltS eS := ⟨fun a => by simp [eS, D.pl], fun a b => by simp [eS, D.alk], fun a b => by simp [eS, D.lt, ltS], fun a => rfl, fun a => rfl⟩
def insT (lt : α → α → Bool) (x : α) : List α → List α
  | [] => [x]
  | y :: r => if lt y x then y :: insT lt x r else x :: y :: r
def sortT (lt : α → α → Bool) : List α → List α
  | [] => []
  | x :: xs => insT lt x (sortT lt xs)
def sortM (lt : α → α → Bool) (xs : List α) : M (List α) := .ret (sortT lt xs)
theorem ins_map {n : Nat} {lt : α → α → Bool} (q : Eo n lt e) (x : α) : ∀ xs : List α, insD (e x) (xs.map e) = (insT lt x xs).map e
  | [] => rfl
  | y :: r => by
    rw [List.map_cons, insD, insT, q.lt, ins_map q x r]
    split <;> rfl
theorem sort_map {n : Nat} {lt : α → α → Bool} (q : Eo n lt e) : ∀ xs : List α, sortD (xs.map e) = (sortT lt xs).map e
  | [] => rfl
  | x :: xs => by rw [List.map_cons, sortD, sortT, sort_map q xs, ins_map q]
theorem plL_mapO {n : Nat} {lt : α → α → Bool} (q : Eo n lt e) : ∀ xs : List α, D.plL n (xs.map e) = true
  | [] => by simp [D.plL]
  | x :: xs => by simp [D.plL, q.pl x, plL_mapO q xs]
theorem r_sorted {n : Nat} {lt : α → α → Bool} (q : Eo n lt e) (xs : List α) (hn : n ≤ 60 := by decide) : Ev (eL e) (dSorted [eL e xs]) (sortM lt xs) := by
  have h : srtOk (xs.map e) = true := by
    unfold srtOk
    rw [D.plL_mono _ hn (plL_mapO q xs)]
    simp only [Bool.true_and, Bool.and_eq_true, List.all_eq_true, List.mem_map]
    refine ⟨?_, ?_⟩
    · rintro _ ⟨a, _, rfl⟩ _ ⟨b, _, rfl⟩
      exact q.alk a b
    · rintro _ ⟨a, _, rfl⟩
      have h1 := q.ne a
      have h2 := q.nn a
      rw [h1]
      cases hd : e a <;> rw [hd] at h2 <;> first | exact ⟨rfl, rfl⟩ | cases h2
  show Ev (eL e) (if srtOk (xs.map e) then M.ret (.lst (sortD (xs.map e))) else .fail) _
  rw [h, sort_map q]; exact Rf.ret rfl
end
end DL

set_option Elab.async false
set_option linter.all false
set_option maxRecDepth 100000
/-! DL22: trees by type, dicts, two clauses, orders of tuples, draws, loops whose turns do not hang together, by plain functions. -/
namespace DL
open PySem PySem.Spec L2
open PyProof.Rows hiding St
section
variable {α β γ δ ρ σ : Type} {e : α → D} {f : β → D} {g : γ → D} {env : DEnv} {m ma mb mk mv md : DE} {m' : M D}

/-! ### trees by type -/
def asSD : D → M Str
  | .str x => .ret x
  | _ => .fail
def asLD : D → M (List D)
  | .lst xs => .ret xs
  | _ => .fail
theorem map_eD (xs : List D) : xs.map eD = xs := List.map_id xs
theorem q_I (d : D) : Ev eI (.ret d) (asI d) := by cases d <;> first | exact Rf.fail | exact Rf.ret rfl
theorem q_S (d : D) : Ev eS (.ret d) (asSD d) := by cases d <;> first | exact Rf.fail | exact Rf.ret rfl
theorem q_B (d : D) : Ev eB (.ret d) (asB d) := by cases d <;> first | exact Rf.fail | exact Rf.ret rfl
theorem q_L (d : D) : Ev (eL eD) (.ret d) (asLD d) := by
  cases d <;> first | exact Rf.fail | exact Rf.ret (by show D.lst _ = D.lst _; rw [map_eD])
theorem q_P {w : D → M α} (q : ∀ d, Ev e (.ret d) (w d)) {d : D} (h : m' = .ret d) : Ev e m' (w d) := by rw [h]; exact q d
theorem q_O {o : Option α} (h : m' = .ret (eO e o)) : Ev e m' (M.opt o) := by
  rw [h]
  cases o with
  | none => exact Rf.fail
  | some a => exact Rf.ret rfl
theorem q_E {w : D → M α} (q : ∀ d, Ev e (.ret d) (w d)) {t : M D} (h : Ev eD m' t) : Ev e m' (t >>= w) := .of fun P z => h.run P (M.wp_mono (M.wp_bind.mp z) fun d z d' r => by
  have r : d' = d := r
  subst r
  exact (q d').run P z)
theorem ri_id {n : M (List D)} : Rf (fun xs ds => ds = xs.map eD) n n := .of fun P q => M.wp_mono q fun a h => h a (map_eD a).symm
theorem i_D {d : D} (h : m env = .ret d) : Rf (fun xs ds => ds = xs.map eD) (iOver m env) (itemsM d) := by
  unfold iOver; rw [h]; exact ri_id
theorem i_DE {t : M D} (h : Ev eD (m env) t) : Rf (fun xs ds => ds = xs.map eD) (iOver m env) (t >>= itemsM) := x_bind h fun d => ri_id
def enumDM : D → M (List (Int × D))
  | .lst xs => .ret (enumT 0 xs)
  | _ => .fail
theorem enum_mapD (i : Nat) (xs : List D) : enumD i xs = (enumT i xs).map (eT2 eI eD) := by rw [← enum_map, map_eD]
theorem ri_enumD (d : D) : Rf (fun xs ds => ds = xs.map (eT2 eI eD)) (match d with
  | .lst xs => M.ret (enumD 0 xs)
  | _ => .fail) (enumDM d) := by
  cases d <;> first | exact Rf.fail | exact Rf.ret (enum_mapD _ _)
theorem i_enumD {d : D} (h : m env = .ret d) : Rf (fun xs ds => ds = xs.map (eT2 eI eD)) (iEnumD m env) (enumDM d) := by
  unfold iEnumD; rw [h]; exact ri_enumD d
theorem i_enumDE {t : M D} (h : Ev eD (m env) t) : Rf (fun xs ds => ds = xs.map (eT2 eI eD)) (iEnumD m env) (t >>= enumDM) := x_bind h fun d => ri_enumD d
def revDM : D → M D
  | .lst xs => .ret (.lst xs.reverse)
  | _ => .fail
theorem ri_revD (d : D) : Ev eD (match d with
  | .lst xs => M.ret (D.lst xs.reverse)
  | _ => .fail) (revDM d) := by
  cases d <;> first | exact Rf.fail | exact Rf.ret rfl
theorem r_revD {d : D} (h : m env = .ret d) : Ev eD (mRev m env) (revDM d) := by
  unfold mRev; rw [h]; exact ri_revD d
theorem r_revDE {t : M D} (h : Ev eD (m env) t) : Ev eD (mRev m env) (t >>= revDM) := x_bind h fun d => ri_revD d
theorem p_lstE {ms : DA} {xs : List α} (a : ms env = .ret (xs.map e)) (h : xs.length ≤ sizeLine) : mLst ms env = .ret (eL e xs) := p_lst a (by rw [List.length_map]; exact h)
theorem p_tupE {ms : DA} {xs : List α} (a : ms env = .ret (xs.map e)) (h : xs.length ≤ sizeLine) : mTup ms env = .ret (eV e xs) := p_tup a (by rw [List.length_map]; exact h)
theorem k_par {R : β → Fl × DEnv → Prop} {i j : Nat} {rest : DS} {d d' : D} {t : M β} (h : Rf R (rest ((env.set i (some (.val d))).set j (some (.val d')))) t) : Rf R (parK i j rest env [d, d']) t := h
/-! ### in -/
def memT [DecidableEq α] (a : α) : List α → Bool
  | [] => false
  | x :: xs => if a = x then true else memT a xs
theorem memT_eq [DecidableEq α] (a : α) : ∀ xs : List α, memT a xs = decide (a ∈ xs)
  | [] => by simp [memT]
  | x :: xs => by
    rw [memT, memT_eq a xs]
    by_cases h : a = x <;> simp [h]
theorem o_minL [DecidableEq α] {n : Nat} (c : Ec n e) (hn : n ≤ 63 := by decide) (a : α) (xs : List α) : dInX (e a) (eL e xs) = .ret (eB (memT a xs)) := by rw [o_inL c hn, memT_eq]
theorem o_minV [DecidableEq α] {n : Nat} (c : Ec n e) (hn : n ≤ 63 := by decide) (a : α) (xs : List α) : dInX (e a) (eV e xs) = .ret (eB (memT a xs)) := by rw [o_inV c hn, memT_eq]
theorem o_mnotInL [DecidableEq α] {n : Nat} (c : Ec n e) (hn : n ≤ 63 := by decide) (a : α) (xs : List α) : dNotInX (e a) (eL e xs) = .ret (eB (!memT a xs)) := by rw [o_notInL c hn, memT_eq]
theorem o_mnotInV [DecidableEq α] {n : Nat} (c : Ec n e) (hn : n ≤ 63 := by decide) (a : α) (xs : List α) : dNotInX (e a) (eV e xs) = .ret (eB (!memT a xs)) := by rw [o_notInV c hn, memT_eq]
/-! ### None or a value -/
theorem beq_non {d : D} (h : d ≠ .non) : D.beq d .non = false := by cases d <;> first | exact absurd rfl h | simp [D.beq]
theorem non_beq {d : D} (h : d ≠ .non) : D.beq .non d = false := by cases d <;> first | exact absurd rfl h | simp [D.beq]
theorem cO [DecidableEq α] {n : Nat} (c : Ec n e) (nn : ∀ a, e a ≠ .non) : Ec n (eO e) where
  pl := fun o => by
    cases o with
    | none => simp [eO, D.pl]
    | some a => exact c.pl a
  beq := fun o p => by
    cases o with
    | none =>
      cases p with
      | none => simp [eO, D.beq]
      | some b => show D.beq .non (e b) = _; rw [non_beq (nn b)]; simp
    | some a =>
      cases p with
      | none => show D.beq (e a) .non = _; rw [beq_non (nn a)]; simp
      | some b => show D.beq (e a) (e b) = _; rw [c.beq]; simp
/-! ### dicts -/
def eKp (e : α → D) (f : β → D) : α × β → D × D := fun p => (e p.1, f p.2)
def eK (e : α → D) (f : β → D) : List (α × β) → D := fun xs => .dct false (xs.map (eKp e f))
def putT [DecidableEq α] (xs : List (α × β)) (k : α) (v : β) : List (α × β) := if xs.any (fun p => decide (p.1 = k)) then xs.map (fun p => if p.1 = k then (p.1, v) else p) else xs ++ [(k, v)]
def valT [DecidableEq α] : List (α × β) → α → Option β
  | [], _ => none
  | p :: xs, k => if p.1 = k then some p.2 else valT xs k
def getM [DecidableEq α] (xs : List (α × β)) (k : α) : M β := M.opt (valT xs k)
def starM [DecidableEq α] (xs : List (α × β)) (k : α) (v : β) : M (List (α × β)) := if xs.length < sizeLine then .ret (putT xs k v) else .fail
def dictT [DecidableEq α] (xs : List (α × β)) : List (α × β) := xs.foldl (fun acc p => putT acc p.1 p.2) []
structure Ek [DecidableEq α] (e : α → D) : Prop where
  key : ∀ a, (e a).isKey = true
  beq : ∀ a b, D.beq (e a) (e b) = decide (a = b)
theorem kI : Ek eI := ⟨fun _ => rfl, fun a b => cI.beq a b⟩
theorem kS : Ek eS := ⟨fun _ => rfl, fun a b => cS.beq a b⟩
section
variable [DecidableEq α]
theorem val_map (c : Ek e) (k : α) : ∀ xs : List (α × β), valD (xs.map (eKp e f)) (e k) = (valT xs k).map f
  | [] => rfl
  | p :: xs => by
    have ih := val_map c k xs
    unfold valD at ih ⊢
    have hb : D.beq (eKp e f p).1 (e k) = decide (p.1 = k) := c.beq p.1 k
    rw [List.map_cons, List.find?_cons, valT]
    by_cases h : p.1 = k
    · simp only [hb, h, decide_true, if_true]; rfl
    · simp only [hb, h, decide_false, if_false]; exact ih
theorem put_map (c : Ek e) (k : α) (v : β) (xs : List (α × β)) : putD (xs.map (eKp e f)) (e k) (f v) = (putT xs k v).map (eKp e f) := by
  unfold putD putT
  have h1 : (xs.map (eKp e f)).any (fun p => D.beq p.1 (e k)) = xs.any fun p => decide (p.1 = k) := by
    rw [List.any_map]
    congr 1; funext p
    exact c.beq p.1 k
  rw [h1]
  split
  · rw [List.map_map, List.map_map]
    congr 1; funext p
    show (if D.beq (e p.1) (e k) then _ else _) = eKp e f (if p.1 = k then _ else _)
    rw [c.beq]
    by_cases h : p.1 = k
    · rw [if_pos h, decide_eq_true h]; rfl
    · rw [if_neg h, decide_eq_false h]; rfl
  · rw [List.map_append]; rfl
theorem r_ixK (c : Ek e) (xs : List (α × β)) (k : α) : Ev f (dIx (eK e f xs) (e k)) (getM xs k) := by
  have h := c.key k
  have q : dIx (eK e f xs) (e k) = M.opt (valD (xs.map (eKp e f)) (e k)) := by
    show (if keyOk false (e k) then M.opt (valD (xs.map (eKp e f)) (e k)) else .fail) = _
    rw [show keyOk false (e k) = true from h]; rfl
  rw [q, val_map c]
  unfold getM
  cases valT xs k with
  | none => exact Rf.fail
  | some a => exact Rf.ret rfl
theorem r_star (c : Ek e) {xs : List (α × β)} {k : α} {v : β} (h1 : md env = .ret (eK e f xs)) (h2 : mk env = .ret (e k)) (h3 : mv env = .ret (f v)) : Ev (eK e f) (mStar md mk mv env) (starM xs k v) := by
  unfold mStar
  rw [h1]
  show Ev _ (if (xs.map (eKp e f)).length < sizeLine then mk env >>= fun k => if k.isKey then mv env >>= fun v => .ret (.dct false (putD (xs.map (eKp e f)) k v)) else .fail else .fail) _
  rw [List.length_map]
  unfold starM
  split
  · rw [h2]
    show Ev _ (if (e k).isKey then mv env >>= fun v => .ret (.dct false (putD (xs.map (eKp e f)) (e k) v)) else .fail) _
    rw [c.key, h3]
    show Ev _ (.ret (.dct false (putD (xs.map (eKp e f)) (e k) (f v)))) _
    rw [put_map c]
    exact Rf.ret rfl
  · exact Rf.fail
theorem pairs_map (c : Ek e) : ∀ xs : List (α × β), pairsD (xs.map (eT2 e f)) = some (xs.map (eKp e f))
  | [] => rfl
  | p :: xs => by
    show (if (e p.1).isKey then (pairsD (xs.map (eT2 e f))).map ((e p.1, f p.2) :: ·) else none) = _
    rw [c.key, pairs_map c xs]; rfl
theorem merge_map (c : Ek e) : ∀ (ys xs : List (α × β)), mergeD (xs.map (eKp e f)) (ys.map (eKp e f)) = (ys.foldl (fun acc p => putT acc p.1 p.2) xs).map (eKp e f)
  | [], xs => rfl
  | y :: ys, xs => by
    show mergeD (putD (xs.map (eKp e f)) (e y.1) (f y.2)) (ys.map (eKp e f)) = _
    rw [put_map c, merge_map c ys]; rfl
theorem o_dict (c : Ek e) (xs : List (α × β)) : dDict [eL (eT2 e f) xs] = .ret (eK e f (dictT xs)) := by
  show (match pairsD (xs.map (eT2 e f)) with
    | some ps => M.ret (D.dct false (mergeD [] ps))
    | none => .fail) = _
  rw [pairs_map c]
  show M.ret (D.dct false (mergeD ([].map (eKp e f)) (xs.map (eKp e f)))) = _
  rw [merge_map c]; rfl
end
theorem p_newK : mNewK env = .ret (eK e f []) := rfl
/-! ### comprehensions of two clauses -/
def lc2I (c : β → M Bool) (h : β → M γ) : List β → List γ → M (List γ)
  | [], acc => .ret acc
  | y :: ys, acc => c y >>= fun k => if k then h y >>= fun z => if acc.length < sizeLine then lc2I c h ys (acc ++ [z]) else .fail else lc2I c h ys acc
def lc2L (c1 : α → M Bool) (it : α → M (List β)) (c2 : α → β → M Bool) (h : α → β → M γ) : List α → List γ → M (List γ)
  | [], acc => .ret acc
  | x :: xs, acc => c1 x >>= fun k => if k then it x >>= fun ys => lc2I (c2 x) (h x) ys acc >>= fun acc' => lc2L c1 it c2 h xs acc' else lc2L c1 it c2 h xs acc
theorem rf_lc2I {vs1 : List Nat} {g1 : DG} {mt1 : DT} {me : DE} {env1 : DEnv} {E2 : β → DEnv} {c : β → M Bool} {h : β → M γ} (hg : ∀ y, g1 (f y) (wipeE env1 vs1) = .ret (E2 y)) (ht : ∀ y, EvT (mt1 (E2 y)) (c y)) (he : ∀ y, Ev g (me (E2 y)) (h y)) :
    ∀ (ys : List β) (acc : List γ), Rf (fun (zs : List γ) ds => ds = zs.map g) (mLc2I vs1 g1 mt1 me env1 (ys.map f) (acc.map g)) (lc2I c h ys acc)
  | [], acc => Rf.ret rfl
  | y :: ys, acc => by
    show Rf _ (g1 (f y) (wipeE env1 vs1) >>= fun env2 => mt1 env2 >>= _) (c y >>= _)
    rw [hg]
    refine x_test (ht y) fun k => ?_
    cases k with
    | true =>
      refine x_bind (he y) fun z => ?_
      show Rf _ (if (acc.map g).length < sizeLine then mLc2I vs1 g1 mt1 me env1 (ys.map f) (acc.map g ++ [g z]) else .fail) (if acc.length < sizeLine then _ else _)
      rw [List.length_map]
      split
      · have ih := rf_lc2I hg ht he ys (acc ++ [z])
        rw [List.map_append] at ih
        exact ih
      · exact Rf.fail
    | false => exact rf_lc2I hg ht he ys acc
theorem rf_lc2L {vs vs1 : List Nat} {gg g1 : DG} {mt mt1 : DT} {mi1 : DI} {me : DE} {envw : DEnv} {E1 : α → DEnv} {E2 : α → β → DEnv} {c1 : α → M Bool} {it : α → M (List β)} {c2 : α → β → M Bool} {h : α → β → M γ}
    (hg : ∀ x, gg (e x) envw = .ret (E1 x)) (ht : ∀ x, EvT (mt (E1 x)) (c1 x)) (ok : ∀ x, vs.all (notOwn (E1 x)) = true) (hi : ∀ x, Rf (fun ys ds => ds = ys.map f) (mi1 (E1 x)) (it x))
    (hg1 : ∀ x y, g1 (f y) (wipeE (E1 x) vs1) = .ret (E2 x y)) (ht1 : ∀ x y, EvT (mt1 (E2 x y)) (c2 x y)) (he : ∀ x y, Ev g (me (E2 x y)) (h x y)) :
    ∀ (xs : List α) (acc : List γ), Rf (fun (zs : List γ) ds => ds = zs.map g) (mLc2L vs vs1 gg mt mi1 g1 mt1 me envw (xs.map e) (acc.map g)) (lc2L c1 it c2 h xs acc)
  | [], acc => Rf.ret rfl
  | x :: xs, acc => by
    show Rf _ (gg (e x) envw >>= fun env1 => mt env1 >>= _) (c1 x >>= _)
    rw [hg]
    refine x_test (ht x) fun k => ?_
    cases k with
    | true =>
      show Rf _ (if vs.all (notOwn (E1 x)) then mi1 (E1 x) >>= fun es => mLc2I vs1 g1 mt1 me (E1 x) es (acc.map g) >>= fun acc' => mLc2L vs vs1 gg mt mi1 g1 mt1 me envw (xs.map e) acc' else .fail) _
      rw [ok]
      refine (hi x).bind fun ys ds hd => ?_
      subst hd
      refine (rf_lc2I (hg1 x) (ht1 x) (he x) ys acc).bind fun zs ds hd => ?_
      subst hd
      exact rf_lc2L hg ht ok hi hg1 ht1 he xs zs
    | false => exact rf_lc2L hg ht ok hi hg1 ht1 he xs acc
theorem r_lc2E {vs vs1 : List Nat} {mi mi1 : DI} {gg g1 : DG} {mt mt1 : DT} {me : DE} {E1 : α → DEnv} {E2 : α → β → DEnv} {tx : M (List α)} {c1 : α → M Bool} {it : α → M (List β)} {c2 : α → β → M Bool} {h : α → β → M γ}
    (ok0 : vs.all (notOwn env) = true) (hi0 : Rf (fun xs ds => ds = xs.map e) (mi env) tx)
    (hg : ∀ x, gg (e x) (wipeE env vs) = .ret (E1 x)) (ht : ∀ x, EvT (mt (E1 x)) (c1 x)) (ok : ∀ x, vs.all (notOwn (E1 x)) = true) (hi : ∀ x, Rf (fun ys ds => ds = ys.map f) (mi1 (E1 x)) (it x))
    (hg1 : ∀ x y, g1 (f y) (wipeE (E1 x) vs1) = .ret (E2 x y)) (ht1 : ∀ x y, EvT (mt1 (E2 x y)) (c2 x y)) (he : ∀ x y, Ev g (me (E2 x y)) (h x y)) :
    Ev (eL g) (mLc2 vs vs1 mi gg mt mi1 g1 mt1 me env) (tx >>= fun xs => lc2L c1 it c2 h xs []) := by
  unfold mLc2
  rw [if_pos ok0]
  refine hi0.bind fun xs ds hd => ?_
  subst hd
  refine .of fun P q => ?_
  exact M.wp_bind.mpr ((rf_lc2L (f := f) hg ht ok hi hg1 ht1 he xs []).run _ (M.wp_mono q fun zs q d hd => q _ (by rw [hd]; rfl)))
/-! ### orders of tuples -/
theorem ltL_map [DecidableEq α] {n k : Nat} {lt : α → α → Bool} (c : Ec n e) (q : Eo k lt e) : ∀ xs ys : List α, D.ltL (xs.map e) (ys.map e) = ltL lt xs ys
  | [], [] => by simp [D.ltL, ltL]
  | [], y :: ys => by simp [D.ltL, ltL]
  | x :: xs, [] => by simp [D.ltL, ltL]
  | x :: xs, y :: ys => by
    rw [List.map_cons, List.map_cons, D.ltL, ltL, c.beq, ltL_map c q xs ys, q.lt]
    by_cases h : x = y <;> simp [h]
theorem alkL_map {n : Nat} {lt : α → α → Bool} (q : Eo n lt e) : ∀ xs ys : List α, D.alkL (xs.map e) (ys.map e) = true
  | [], _ => by simp [D.alkL]
  | x :: xs, [] => by simp [D.alkL]
  | x :: xs, y :: ys => by rw [List.map_cons, List.map_cons, D.alkL, q.alk, alkL_map q xs ys]; rfl
def ltP2 [DecidableEq α] [DecidableEq β] (l1 : α → α → Bool) (l2 : β → β → Bool) (a b : α × β) : Bool := if a.1 = b.1 then (if a.2 = b.2 then false else l2 a.2 b.2) else l1 a.1 b.1
theorem qT2 [DecidableEq α] [DecidableEq β] {n m k j : Nat} {l1 : α → α → Bool} {l2 : β → β → Bool} (c1 : Ec k e) (q1 : Eo n l1 e) (c2 : Ec j f) (q2 : Eo m l2 f) : Eo (max n m + 1) (ltP2 l1 l2) (eT2 e f) where
  pl := fun a => by simp only [eT2, D.pl, D.plL, D.pl_mono _ (Nat.le_max_left n m) (q1.pl a.1), D.pl_mono _ (Nat.le_max_right n m) (q2.pl a.2)]; rfl
  alk := fun a b => by simp [eT2, D.alk, D.alkL, q1.alk, q2.alk]
  lt := fun a b => by
    simp only [eT2, D.lt, D.ltL, c1.beq, c2.beq, q1.lt, q2.lt, ltP2]
    by_cases h : a.1 = b.1
    · by_cases h2 : a.2 = b.2 <;> simp [h, h2]
    · simp [h]
  ne := fun a => rfl
  nn := fun a => rfl
theorem qL [DecidableEq α] {n k : Nat} {lt : α → α → Bool} (c : Ec k e) (q : Eo n lt e) : Eo (n + 1) (ltL lt) (eL e) where
  pl := fun a => by simp only [eL, D.pl]; exact plL_mapO q a
  alk := fun a b => by simp only [eL, D.alk]; exact alkL_map q a b
  lt := fun a b => by simp only [eL, D.lt]; exact ltL_map c q a b
  ne := fun a => rfl
  nn := fun a => rfl
/-- tuples of any length: none of them empty -/
def sortVM (lt : α → α → Bool) (xs : List (List α)) [DecidableEq α] : M (List (List α)) := if xs.any List.isEmpty then .fail else .ret (sortT (ltL lt) xs)
theorem ins_mapV [DecidableEq α] {n k : Nat} {lt : α → α → Bool} (c : Ec k e) (q : Eo n lt e) (x : List α) : ∀ xs : List (List α), insD (eV e x) (xs.map (eV e)) = (insT (ltL lt) x xs).map (eV e)
  | [] => rfl
  | y :: r => by
    have h : D.lt (eV e y) (eV e x) = ltL lt y x := by simp only [eV, D.lt]; exact ltL_map c q y x
    rw [List.map_cons, insD, insT, h, ins_mapV c q x r]
    split <;> rfl
theorem sort_mapV [DecidableEq α] {n k : Nat} {lt : α → α → Bool} (c : Ec k e) (q : Eo n lt e) : ∀ xs : List (List α), sortD (xs.map (eV e)) = (sortT (ltL lt) xs).map (eV e)
  | [] => rfl
  | x :: xs => by rw [List.map_cons, sortD, sortT, sort_mapV c q xs, ins_mapV c q]
theorem r_sortedV [DecidableEq α] {n k : Nat} {lt : α → α → Bool} (c : Ec k e) (q : Eo n lt e) (xs : List (List α)) (hn : n + 1 ≤ 60 := by decide) : Ev (eL (eV e)) (dSorted [eL (eV e) xs]) (sortVM lt xs) := by
  unfold sortVM
  split
  · exact Rf.fail
  · rename_i hx
    have hp : ∀ a : List α, (eV e a).pl (n + 1) = true := fun a => by simp only [eV, D.pl]; exact plL_mapO q a
    have hpl : ∀ ys : List (List α), D.plL (n + 1) (ys.map (eV e)) = true := by
      intro ys
      induction ys with
      | nil => simp [D.plL]
      | cons y ys ih => rw [List.map_cons, D.plL, hp, ih]; rfl
    have h : srtOk (xs.map (eV e)) = true := by
      unfold srtOk
      rw [D.plL_mono _ hn (hpl xs)]
      simp only [Bool.true_and, Bool.and_eq_true, List.all_eq_true, List.mem_map]
      refine ⟨?_, ?_⟩
      · rintro _ ⟨a, _, rfl⟩ _ ⟨b, _, rfl⟩
        simp only [eV, D.alk]; exact alkL_map q a b
      · rintro _ ⟨a, ha, rfl⟩
        refine ⟨?_, rfl⟩
        cases a with
        | nil => exact absurd (List.any_eq_true.mpr ⟨[], ha, rfl⟩) hx
        | cons y ys => rfl
    show Ev _ (if srtOk (xs.map (eV e)) then M.ret (.lst (sortD (xs.map (eV e)))) else .fail) _
    rw [h, sort_mapV c q]; exact Rf.ret rfl
/-! ### draws -/
def askM (k : Int) : M Int := .ask k .ret
theorem r_take (k : Int) : Ev eI (takeM [eD .stt, eI k]) (askM k) := Rf.ask fun i => Rf.ret rfl
/-! ### loops whose turns do not hang together: one turn -/
def onceE {ρ : Type} : Fw Unit ρ → M (Fw Unit ρ)
  | .go s => .ret (.go s)
  | .brk s => .ret (.go s)
  | .back r => .ret (.back r)
def onceR {ρ : Type} (f : Unit → M (Fw Unit ρ)) : List α → Unit → M (Fw Unit ρ)
  | [], _ => .ret (.go ())
  | _ :: _, _ => f () >>= onceE
theorem rf_onceR {gg : DG} {mb : DS} {E : Unit → DEnv} {E1 : α → Unit → DEnv} {eρ : ρ → D} {f : Unit → M (Fw Unit ρ)} (hg : ∀ x s, gg (e x) (E s) = .ret (E1 x s)) (hb : ∀ x s, Rf (RTn E eρ) (mb (E1 x s)) (f s)) : ∀ (xs : List α) (s : Unit), Rf (RLp E eρ) (mForL gg mb (xs.map e) (E s)) (onceR f xs s)
  | [], s => Rf.ret rfl
  | [x], s => by
    show Rf _ (gg (e x) (E s) >>= fun env1 => mb env1 >>= _) (f () >>= _)
    rw [hg]
    refine (hb x s).bind fun o p r => ?_
    cases o with
    | go s' => rcases r with r | r <;> subst r <;> exact Rf.ret rfl
    | brk s' =>
      have r : p = (.bk, E s') := r
      subst r; exact Rf.ret rfl
    | back r' =>
      obtain ⟨fl, env2⟩ := p
      have r1 : fl = .rt (eρ r') := r
      subst r1; exact Rf.ret rfl
  | x :: y :: ys, s => by
    refine .of fun P q => ?_
    have ih := (rf_onceR hg hb (y :: ys) s).run P q
    have q1 := M.wp_bind.mp q
    show (gg (e x) (E s) >>= fun env1 => mb env1 >>= _).wp P
    rw [hg]
    show (mb (E1 x s) >>= _).wp P
    refine M.wp_bind.mpr ((hb x s).run _ (M.wp_mono q1 fun o qo p r => ?_))
    cases o with
    | go s' => rcases r with r | r <;> subst r <;> exact ih
    | brk s' =>
      have r : p = (.bk, E s') := r
      subst r; exact qo _ rfl
    | back r' =>
      obtain ⟨fl, env2⟩ := p
      have r1 : fl = .rt (eρ r') := r
      subst r1; exact qo _ rfl
end
end DL

set_option Elab.async false
set_option linter.all false
set_option maxRecDepth 100000
/-! DL23: runs of plain functions: values, loops whose turns all go on. -/
namespace DL
open PySem PySem.Spec L2
open PyProof.Rows hiding St
def M.val {α : Type} : M α → Option α
  | .ret a => some a
  | _ => none
theorem M.val_eq {α : Type} {m : M α} {a : α} (h : m.val = some a) : m = .ret a := by
  cases m with
  | ret b => cases h; rfl
  | fail => cases h
  | ask k f => cases h
theorem M.val_bind {α β : Type} {m : M α} {g : α → M β} {b : β} (h : (m >>= g).val = some b) : ∃ a, m = .ret a ∧ g a = .ret b := by
  cases m with
  | ret a => exact ⟨a, rfl, M.val_eq h⟩
  | fail => cases h
  | ask k f => cases h
theorem loopR_go {α σ ρ : Type} {f : α → σ → M (Fw σ ρ)} {st : α → σ → σ} : ∀ (xs : List α) (s : σ), (∀ x ∈ xs, ∀ s, f x s = .ret (.go (st x s))) → loopR f xs s = .ret (.go (xs.foldl (fun s x => st x s) s))
  | [], s, h => rfl
  | x :: xs, s, h => by
    show (f x s >>= _) = _
    rw [h x List.mem_cons_self s]
    exact loopR_go xs (st x s) fun y hy => h y (List.mem_cons_of_mem _ hy)
/-- two things that hold so far -/
theorem fold_and {α : Type} (p q : α → Bool) : ∀ (xs : List α) (a b : Bool), xs.foldl (fun s x => (s.1 && p x, s.2 && q x)) (a, b) = (a && xs.all p, b && xs.all q)
  | [], a, b => by simp
  | x :: xs, a, b => by
    rw [List.foldl_cons, fold_and p q xs]
    simp [Bool.and_assoc]
theorem rgT_mem {a b x : Int} (h : x ∈ rgT a b) : a ≤ x ∧ x < b := by
  unfold rgT at h
  obtain ⟨i, hi, rfl⟩ := List.mem_map.mp h
  rw [List.mem_range] at hi
  omega
theorem rgT_all (n : Nat) (p : Int → Bool) : (rgT 0 n).all p = (List.range n).all fun i => p (i : Nat) := by
  unfold rgT
  rw [List.all_map]
  have : ((n : Int) - 0).toNat = n := by omega
  rw [this]
  congr 1
  funext i
  show p (0 + (i : Nat)) = _
  rw [Int.zero_add]
end DL

set_option Elab.async false
set_option linter.all false
set_option maxRecDepth 100000
set_option maxHeartbeats 0
namespace K79
open PySem PySem.Spec L2 DL
open PyProof.Rows hiding St
/-! ### texts of the program -/
def s_all : Str := "all"
def s_some : Str := "some"
def s_apart : Str := "apart"
def s_swaps : Str := "swaps"
def s_swap : Str := "swap"
def s_other : Str := "other"
def s_names : Str := "names"
def s_pair : Str := "pair"
def s_x : Str := "x"
def s_y : Str := "y"
def s_z : Str := "z"
def s_q : Str := "q"
/-! ### the defs of the text -/
def topS (i : Nat) : Stmt := PySem.Challenge.pw_wordkinds_k79_prefixes_of_all_and_some.main.body.getD i (.Pass ⟨0, 0, 0, 0⟩)
abbrev s_T_holds : Stmt := topS 1
abbrev s_T_holds_from : Stmt := topS 2
abbrev s_T_parting_pair : Stmt := topS 3
abbrev s_T_entails : Stmt := topS 4
abbrev s_T_swapped : Stmt := topS 5
abbrev s_T_rows_apart : Stmt := topS 6
abbrev s_T_entails_fault : Stmt := topS 7
abbrev s_T_are_alike : Stmt := topS 8
abbrev s_T_plain_form : Stmt := topS 9
abbrev s_T_law_state : Stmt := topS 11
abbrev s_T_law_take : Stmt := topS 12
abbrev s_T_law_orders : Stmt := topS 13
abbrev s_T_law_holds : Stmt := topS 14
abbrev s_T_law_fault : Stmt := topS 15
abbrev s_T_law : Stmt := topS 16
abbrev N_holds : List Str := ["prefix", "names", "size", "rows"]
theorem sc_holds : FnScope N_holds ["prefix", "names", "size", "rows"] (defScope s_T_holds) := ⟨rfl, rfl, rfl, by decide +kernel, rfl, by decide +kernel, by decide +kernel⟩
abbrev N_holds_from : List Str := ["prefix", "names", "size", "rows", "values", "told", "word", "name", "thing"]
theorem sc_holds_from : FnScope N_holds_from ["prefix", "names", "size", "rows", "values"] (defScope s_T_holds_from) := ⟨rfl, rfl, rfl, by decide +kernel, rfl, by decide +kernel, by decide +kernel⟩
abbrev N_parting_pair : List Str := ["one", "other", "at", "later", "word", "name"]
theorem sc_parting_pair : FnScope N_parting_pair ["one", "other"] (defScope s_T_parting_pair) := ⟨rfl, rfl, rfl, by decide +kernel, rfl, by decide +kernel, by decide +kernel⟩
abbrev N_entails : List Str := ["one", "other", "pair", "row", "places", "turning", "at"]
theorem sc_entails : FnScope N_entails ["one", "other"] (defScope s_T_entails) := ⟨rfl, rfl, rfl, by decide +kernel, rfl, by decide +kernel, by decide +kernel⟩
abbrev N_swapped : List Str := ["prefix", "place"]
theorem sc_swapped : FnScope N_swapped ["prefix", "place"] (defScope s_T_swapped) := ⟨rfl, rfl, rfl, by decide +kernel, rfl, by decide +kernel, by decide +kernel⟩
abbrev N_rows_apart : List Str := ["names", "pair", "rows", "_", "one", "other", "row", "thing"]
theorem sc_rows_apart : FnScope N_rows_apart ["names", "pair"] (defScope s_T_rows_apart) := ⟨rfl, rfl, rfl, by decide +kernel, rfl, by decide +kernel, by decide +kernel⟩
abbrev N_entails_fault : List Str := ["one", "other", "told", "pair", "right", "row", "at", "place"]
theorem sc_entails_fault : FnScope N_entails_fault ["one", "other", "told"] (defScope s_T_entails_fault) := ⟨rfl, rfl, rfl, by decide +kernel, rfl, by decide +kernel, by decide +kernel⟩
abbrev N_are_alike : List Str := ["one", "other"]
theorem sc_are_alike : FnScope N_are_alike ["one", "other"] (defScope s_T_are_alike) := ⟨rfl, rfl, rfl, by decide +kernel, rfl, by decide +kernel, by decide +kernel⟩
abbrev N_plain_form : List Str := ["prefix", "found", "at", "end"]
theorem sc_plain_form : FnScope N_plain_form ["prefix"] (defScope s_T_plain_form) := ⟨rfl, rfl, rfl, by decide +kernel, rfl, by decide +kernel, by decide +kernel⟩
abbrev N_law_orders : List Str := ["left", "found", "one", "row", "other"]
theorem sc_law_orders : FnScope N_law_orders ["left"] (defScope s_T_law_orders) := ⟨rfl, rfl, rfl, by decide +kernel, rfl, by decide +kernel, by decide +kernel⟩
abbrev N_law_holds : List Str := ["prefix", "names", "size", "rows", "values", "told", "thing", "name", "one"]
theorem sc_law_holds : FnScope N_law_holds ["prefix", "names", "size", "rows", "values"] (defScope s_T_law_holds) := ⟨rfl, rfl, rfl, by decide +kernel, rfl, by decide +kernel, by decide +kernel⟩
abbrev N_law_fault : List Str := ["one", "other", "told", "row", "k", "first", "second", "place"]
theorem sc_law_fault : FnScope N_law_fault ["one", "other", "told"] (defScope s_T_law_fault) := ⟨rfl, rfl, rfl, by decide +kernel, rfl, by decide +kernel, by decide +kernel⟩
abbrev N_law : List Str := ["script", "state", "count", "names", "pairs", "orders", "told", "every", "name", "number", "same", "place", "turn", "one", "other", "says", "back", "rows", "bad", "first", "second", "order", "row", "bent", "k"]
theorem sc_law : FnScope N_law ["script"] (defScope s_T_law) := ⟨rfl, rfl, rfl, by decide +kernel, rfl, by decide +kernel, by decide +kernel⟩
abbrev N_law_take : List Str := ["state", "most", "cells", "at", "cell", "mixed"]
theorem sc_law_take : FnScope N_law_take ["state", "most"] (defScope s_T_law_take) := ⟨rfl, rfl, rfl, by decide +kernel, rfl, by decide +kernel, by decide +kernel⟩
abbrev N_law_state : List Str := ["script", "cells", "cell"]
theorem sc_law_state : FnScope N_law_state ["script"] (defScope s_T_law_state) := ⟨rfl, rfl, rfl, by decide +kernel, rfl, by decide +kernel, by decide +kernel⟩
/-! ### the mirrors -/
def b_holds_from (rec : List D → M D) (n : Nat) : DS := mSeq (mIf (mNot (mTru (mVarB 0))) (mRet (mBin dInX (mCall dTuple (aCons (mLc [7] (iOver (mVarB 1)) (gV 7) (mYes) (mBin dIx (mVarB 4) (mVarB 7))) (aNil))) (mVarB 3))) (mPass)) (mSeq (mAsg (gT 2 (gsCons (gV 6) (gsCons (gV 7) (gsNil)))) (mBin dIx (mVarB 0) (mC (.int 0)))) (mSeq (mSetV 5 (mLc [8] (iRg1 (mVarB 2)) (gV 8) (mYes) (mCall rec (aCons (mSl dSl (mVarB 0) (oSome (mC (.int 1))) (oNone)) (aCons (mVarB 1) (aCons (mVarB 2) (aCons (mVarB 3) (aCons (mStar (mVarB 4) (mVarB 7) (mVar 8)) (aNil))))))))) (mRet (mIfE (mBinT dEq (mVarB 6) (mC (.str s_all))) (mCall dAll (aCons (mVarB 5) (aNil))) (mCall dAny (aCons (mVarB 5) (aNil)))))))
def f_holds_from : Nat → List D → M D
  | 0 => fun _ => .fail
  | n + 1 => fnM 9 [true, true, true, true, true] (b_holds_from (f_holds_from n) n)
def b_holds (n : Nat) : DS := mRet (mCall (f_holds_from n) (aCons (mVarB 0) (aCons (mVarB 1) (aCons (mVarB 2) (aCons (mVarB 3) (aCons (mNewK) (aNil)))))))
def f_holds : Nat → List D → M D
  | 0 => fun _ => .fail
  | n + 1 => fnM 4 [true, true, true, true] (b_holds n)
def b_parting_pair (n : Nat) : DS := mForget [2, 3, 4, 5] (mSeq (mFor (iEnumD (mVar 0)) (gT 2 (gsCons (gV 2) (gsCons (gT 2 (gsCons (gV 4) (gsCons (gV 5) (gsNil)))) (gsNil)))) (mForget [3] (mSeq (mFor (iRg2 (mBin dAdd (mVarB 2) (mC (.int 1))) (mCall dLen (aCons (mVarB 0) (aNil)))) (gV 3) (mSeq (mIf (mAnd (mBinT dEq (mVarB 4) (mC (.str s_all))) (mAnd (mBinT dEq (mBin dIx (mBin dIx (mVarB 0) (mVarB 3)) (mC (.int 0))) (mC (.str s_some))) (mBinT dLt (mMeth dIndex (mVarB 1) (aCons (mBin dIx (mVarB 0) (mVarB 3)) aNil)) (mMeth dIndex (mVarB 1) (aCons (mBin dIx (mVarB 0) (mVarB 2)) aNil))))) (mRet (mTup (aCons (mVar 5) (aCons (mBin dIx (mBin dIx (mVarB 0) (mVarB 3)) (mC (.int 1))) (aNil))))) (mPass)) (mForget [3] mPass))) (mForget [2, 3, 4, 5] mPass)))) (mRet (mC .non)))
def f_parting_pair : Nat → List D → M D
  | 0 => fun _ => .fail
  | n + 1 => fnM 6 [false, true] (b_parting_pair n)
def b_entails (n : Nat) : DS := mSeq (mSetV 2 (mCall (f_parting_pair n) (aCons (mVar 0) (aCons (mVarB 1) (aNil))))) (mSeq (mIf (mBinT dIsNot (mVarB 2) (mC .non)) (mRet (mBin dAdd (mTup (aCons (mC (.str s_apart)) (aNil))) (mVarB 2))) (mPass)) (mSeq (mSetV 3 (mCall dList (aCons (mVarB 0) (aNil)))) (mSeq (mSetO 4 (mLst (aNil))) (mSeq (mSetV 5 (mC (.bl true))) (mForget [6] (mSeq (mWhile (mTru (mVarB 5)) (mSeq (mSetV 5 (mC (.bl false))) (mForget [6] (mSeq (mFor (iRg1 (mBin dSub (mCall dLen (aCons (mVarB 3) (aNil))) (mC (.int 1)))) (gV 6) (mSeq (mIf (mBinT dGt (mMeth dIndex (mVarB 1) (aCons (mBin dIx (mVarB 3) (mVarB 6)) aNil)) (mMeth dIndex (mVarB 1) (aCons (mBin dIx (mVarB 3) (mBin dAdd (mVarB 6) (mC (.int 1)))) aNil))) (mSeq (mSetV 3 (mBin dAdd (mBin dAdd (mSl dSl (mVarB 3) (oNone) (oSome (mVarB 6))) (mLst (aCons (mBin dIx (mVarB 3) (mBin dAdd (mVarB 6) (mC (.int 1)))) (aCons (mBin dIx (mVarB 3) (mVarB 6)) (aNil))))) (mSl dSl (mVarB 3) (oSome (mBin dAdd (mVarB 6) (mC (.int 2)))) (oNone)))) (mSeq (mAppend 4 (mVar 6)) (mSeq (mSetV 5 (mC (.bl true))) (mForget [] mPass)))) (mForget [] mPass)) (mForget [6] mPass))) (mForget [6] mPass)))) 100) (mFrz 4 (mRet (mTup (aCons (mC (.str s_swaps)) (aCons (mVar 4) (aNil))))))))))))
def f_entails : Nat → List D → M D
  | 0 => fun _ => .fail
  | n + 1 => fnM 7 [false, true] (b_entails n)
def b_swapped (n : Nat) : DS := mSeq (mIf (mOr (mNot (mTE (mChain dLe dLt (mC (.int 0)) (mVarB 1) (mBin dSub (mCall dLen (aCons (mVarB 0) (aNil))) (mC (.int 1)))))) (mAnd (mBinT dEq (mBin dIx (mBin dIx (mVarB 0) (mVarB 1)) (mC (.int 0))) (mC (.str s_all))) (mBinT dEq (mBin dIx (mBin dIx (mVarB 0) (mBin dAdd (mVarB 1) (mC (.int 1)))) (mC (.int 0))) (mC (.str s_some))))) (mRet (mC .non)) (mPass)) (mRet (mBin dAdd (mBin dAdd (mSl dSl (mVarB 0) (oNone) (oSome (mVarB 1))) (mLst (aCons (mBin dIx (mVarB 0) (mBin dAdd (mVarB 1) (mC (.int 1)))) (aCons (mBin dIx (mVarB 0) (mVarB 1)) (aNil))))) (mSl dSl (mVarB 0) (oSome (mBin dAdd (mVarB 1) (mC (.int 2)))) (oNone))))
def f_swapped : Nat → List D → M D
  | 0 => fun _ => .fail
  | n + 1 => fnM 2 [true, true] (b_swapped n)
def b_rows_apart (n : Nat) : DS := mSeq (mSetV 2 (mLst (aCons (mTup (aNil)) (aNil)))) (mForget [3] (mSeq (mFor (iOver (mVar 0)) (gV 3) (mSeq (mSetV 2 (mLc2 [6, 7] [7] (iOver (mVarB 2)) (gV 6) (mYes) (iOver (mTup (aCons (mC (.int 0)) (aCons (mC (.int 1)) (aNil))))) (gV 7) (mYes) (mBin dAdd (mVarB 6) (mTup (aCons (mVar 7) (aNil)))))) (mForget [3] mPass))) (mSeq (mAsg (gT 2 (gsCons (gV 4) (gsCons (gV 5) (gsNil)))) (mTup (aCons (mMeth dIndex (mVarB 0) (aCons (mBin dIx (mVarB 1) (mC (.int 0))) aNil)) (aCons (mMeth dIndex (mVarB 0) (aCons (mBin dIx (mVarB 1) (mC (.int 1))) aNil)) (aNil))))) (mRet (mLc [6] (iOver (mVarB 2)) (gV 6) (mBinT dEq (mBin dIx (mVarB 6) (mVarB 4)) (mBin dIx (mVarB 6) (mVarB 5))) (mVar 6))))))
def f_rows_apart : Nat → List D → M D
  | 0 => fun _ => .fail
  | n + 1 => fnM 8 [false, true] (b_rows_apart n)
def b_entails_fault (n : Nat) : DS := mSeq (mIf (mBinT dEq (mBin dIx (mVarB 2) (mC (.int 0))) (mC (.str s_swaps))) (mSeq (mSetV 5 (mCall dList (aCons (mVarB 0) (aNil)))) (mForget [6, 7] (mSeq (mFor (iEnumD (mBin dIx (mVarB 2) (mC (.int 1)))) (gT 2 (gsCons (gV 6) (gsCons (gV 7) (gsNil)))) (mSeq (mSetV 5 (mCall (f_swapped n) (aCons (mVarB 5) (aCons (mVarB 7) (aNil))))) (mSeq (mIf (mBinT dIs (mVarB 5) (mC .non)) (mRet (mTup (aCons (mC (.str s_swap)) (aCons (mVar 6) (aNil))))) (mPass)) (mForget [6, 7] mPass)))) (mRet (mIfE (mBinT dEq (mVarB 5) (mVarB 1)) (mC .non) (mTup (aCons (mC (.str s_other)) (aNil)))))))) (mForget [5, 6, 7] mPass)) (mSeq (mSetV 3 (mTup (aCons (mTup (aCons (mC (.str s_all)) (aCons (mBin dIx (mVarB 2) (mC (.int 1))) (aNil)))) (aCons (mTup (aCons (mC (.str s_some)) (aCons (mBin dIx (mVarB 2) (mC (.int 2))) (aNil)))) (aNil))))) (mSeq (mIf (mOr (mBinT dNotInX (mBin dIx (mVarB 3) (mC (.int 0))) (mVarB 0)) (mBinT dNotInX (mBin dIx (mVarB 3) (mC (.int 1))) (mVarB 0))) (mRet (mTup (aCons (mC (.str s_names)) (aNil)))) (mPass)) (mSeq (mSetV 4 (mAndV (mBin dLt (mMeth dIndex (mVarB 0) (aCons (mBin dIx (mVarB 3) (mC (.int 0))) aNil)) (mMeth dIndex (mVarB 0) (aCons (mBin dIx (mVarB 3) (mC (.int 1))) aNil))) (mBin dLt (mMeth dIndex (mVarB 1) (aCons (mBin dIx (mVarB 3) (mC (.int 1))) aNil)) (mMeth dIndex (mVarB 1) (aCons (mBin dIx (mVarB 3) (mC (.int 0))) aNil))))) (mRet (mIfE (mTru (mVarB 4)) (mC .non) (mTup (aCons (mC (.str s_pair)) (aNil))))))))
def f_entails_fault : Nat → List D → M D
  | 0 => fun _ => .fail
  | n + 1 => fnM 8 [true, true, true] (b_entails_fault n)
def b_are_alike (n : Nat) : DS := mRet (mAndV (mBin dIs (mCall (f_parting_pair n) (aCons (mVar 0) (aCons (mVarB 1) (aNil)))) (mC .non)) (mBin dIs (mCall (f_parting_pair n) (aCons (mVar 1) (aCons (mVarB 0) (aNil)))) (mC .non)))
def f_are_alike : Nat → List D → M D
  | 0 => fun _ => .fail
  | n + 1 => fnM 2 [false, false] (b_are_alike n)
def b_plain_form (n : Nat) : DS := mSeq (mSetV 1 (mLst (aNil))) (mSeq (mSetV 2 (mC (.int 0))) (mForget [3] (mSeq (mWhile (mBinT dLt (mVarB 2) (mCall dLen (aCons (mVarB 0) (aNil)))) (mSeq (mSetV 3 (mVar 2)) (mSeq (mWhile (mAnd (mBinT dLt (mVarB 3) (mCall dLen (aCons (mVarB 0) (aNil)))) (mBinT dEq (mBin dIx (mBin dIx (mVarB 0) (mVarB 3)) (mC (.int 0))) (mBin dIx (mBin dIx (mVarB 0) (mVarB 2)) (mC (.int 0))))) (mSeq (mSetV 3 (mBin dAdd (mVarB 3) (mC (.int 1)))) (mForget [] mPass)) 100) (mSeq (mSetV 1 (mBin dAdd (mVarB 1) (mCall dSorted (aCons (mSl dSl (mVarB 0) (oSome (mVarB 2)) (oSome (mVarB 3))) (aNil))))) (mSeq (mSetV 2 (mVar 3)) (mForget [3] mPass))))) 100) (mRet (mVar 1)))))
def f_plain_form : Nat → List D → M D
  | 0 => fun _ => .fail
  | n + 1 => fnM 4 [true] (b_plain_form n)
def b_law_orders (rec : List D → M D) (n : Nat) : DS := mSeq (mIf (mBinT dEq (mCall dLen (aCons (mVarB 0) (aNil))) (mC (.int 0))) (mRet (mLst (aCons (mLst (aNil)) (aNil)))) (mPass)) (mSeq (mSetO 1 (mLst (aNil))) (mForget [2] (mSeq (mFor (iOver (mVar 0)) (gV 2) (mSeq (mExtend 1 (mLc [3] (iOver (mCall rec (aCons (mLc [4] (iOver (mVarB 0)) (gV 4) (mBinT dNe (mVarB 4) (mVarB 2)) (mVar 4)) (aNil)))) (gV 3) (mYes) (mBin dAdd (mLst (aCons (mVar 2) (aNil))) (mVarB 3)))) (mForget [2] mPass))) (mFrz 1 (mRet (mVar 1))))))
def f_law_orders : Nat → List D → M D
  | 0 => fun _ => .fail
  | n + 1 => fnM 5 [false] (b_law_orders (f_law_orders n) n)
def b_law_holds (rec : List D → M D) (n : Nat) : DS := mSeq (mIf (mBinT dEq (mCall dLen (aCons (mVarB 0) (aNil))) (mC (.int 0))) (mRet (mBin dInX (mCall dTuple (aCons (mLc [7] (iOver (mVarB 1)) (gV 7) (mYes) (mBin dIx (mCall dDict (aCons (mVarB 4) (aNil))) (mVarB 7))) (aNil))) (mVarB 3))) (mPass)) (mSeq (mSetV 5 (mLc [6] (iRg1 (mVarB 2)) (gV 6) (mYes) (mCall rec (aCons (mSl dSl (mVarB 0) (oSome (mC (.int 1))) (oNone)) (aCons (mVarB 1) (aCons (mVarB 2) (aCons (mVarB 3) (aCons (mBin dAdd (mVarB 4) (mLst (aCons (mTup (aCons (mBin dIx (mBin dIx (mVarB 0) (mC (.int 0))) (mC (.int 1))) (aCons (mVar 6) (aNil)))) (aNil)))) (aNil))))))))) (mRet (mIfE (mBinT dEq (mBin dIx (mBin dIx (mVarB 0) (mC (.int 0))) (mC (.int 0))) (mC (.str s_all))) (mBin dEq (mCall dLen (aCons (mLc [8] (iOver (mVarB 5)) (gV 8) (mTru (mVarB 8)) (mVar 8)) (aNil))) (mVarB 2)) (mBin dGt (mCall dLen (aCons (mLc [8] (iOver (mVarB 5)) (gV 8) (mTru (mVarB 8)) (mVar 8)) (aNil))) (mC (.int 0))))))
def f_law_holds : Nat → List D → M D
  | 0 => fun _ => .fail
  | n + 1 => fnM 9 [true, true, true, true, true] (b_law_holds (f_law_holds n) n)
def b_law_fault (n : Nat) : DS := mSeq (mIf (mBinT dEq (mBin dIx (mVarB 2) (mC (.int 0))) (mC (.str s_swaps))) (mSeq (mSetV 3 (mCall dList (aCons (mVarB 0) (aNil)))) (mForget [4, 7] (mSeq (mFor (iRg1 (mCall dLen (aCons (mBin dIx (mVarB 2) (mC (.int 1))) (aNil)))) (gV 4) (mSeq (mSetV 7 (mBin dIx (mBin dIx (mVarB 2) (mC (.int 1))) (mVarB 4))) (mSeq (mIf (mOr (mNot (mTE (mChain dLe dLt (mC (.int 0)) (mVarB 7) (mBin dSub (mCall dLen (aCons (mVarB 3) (aNil))) (mC (.int 1)))))) (mAnd (mBinT dEq (mBin dIx (mBin dIx (mVarB 3) (mVarB 7)) (mC (.int 0))) (mC (.str s_all))) (mBinT dEq (mBin dIx (mBin dIx (mVarB 3) (mBin dAdd (mVarB 7) (mC (.int 1)))) (mC (.int 0))) (mC (.str s_some))))) (mRet (mTup (aCons (mC (.str s_swap)) (aCons (mVar 4) (aNil))))) (mPass)) (mSeq (mSetV 3 (mBin dAdd (mBin dAdd (mSl dSl (mVarB 3) (oNone) (oSome (mVarB 7))) (mLst (aCons (mBin dIx (mVarB 3) (mBin dAdd (mVarB 7) (mC (.int 1)))) (aCons (mBin dIx (mVarB 3) (mVarB 7)) (aNil))))) (mSl dSl (mVarB 3) (oSome (mBin dAdd (mVarB 7) (mC (.int 2)))) (oNone)))) (mForget [4, 7] mPass))))) (mRet (mIfE (mBinT dEq (mVarB 3) (mVarB 1)) (mC .non) (mTup (aCons (mC (.str s_other)) (aNil)))))))) (mForget [3, 4, 7] mPass)) (mSeq (mIf (mOr (mBinT dNotInX (mTup (aCons (mC (.str s_all)) (aCons (mBin dIx (mVarB 2) (mC (.int 1))) (aNil)))) (mVarB 0)) (mBinT dNotInX (mTup (aCons (mC (.str s_some)) (aCons (mBin dIx (mVarB 2) (mC (.int 2))) (aNil)))) (mVarB 0))) (mRet (mTup (aCons (mC (.str s_names)) (aNil)))) (mPass)) (mSeq (mPar 5 6 (aCons (mTup (aCons (mC (.str s_all)) (aCons (mBin dIx (mVarB 2) (mC (.int 1))) (aNil)))) (aCons (mTup (aCons (mC (.str s_some)) (aCons (mBin dIx (mVarB 2) (mC (.int 2))) (aNil)))) (aNil)))) (mRet (mIfE (mAnd (mBinT dLt (mMeth dIndex (mVarB 0) (aCons (mVarB 5) aNil)) (mMeth dIndex (mVarB 0) (aCons (mVarB 6) aNil))) (mBinT dLt (mMeth dIndex (mVarB 1) (aCons (mVarB 6) aNil)) (mMeth dIndex (mVarB 1) (aCons (mVarB 5) aNil)))) (mC .non) (mTup (aCons (mC (.str s_pair)) (aNil)))))))
def f_law_fault : Nat → List D → M D
  | 0 => fun _ => .fail
  | n + 1 => fnM 8 [true, true, true] (b_law_fault n)
def law_s16 (n : Nat) : DS := mRet (mC (.bl true))
def law_r16 (n : Nat) : DS := (law_s16 n)
def law_s15 (n : Nat) : DS := mFor (iRg1 (mC (.int 7))) (gV 12) (mSeq (mIf (mBinT dEq (mBin dIx (mVarB 6) (mC (.int 0))) (mC (.str s_swaps))) (mSeq (mSetV 22 (mCall dList (aCons (mBin dIx (mVarB 6) (mC (.int 1))) (aNil)))) (mSeq (mSetV 23 (mBin dIx (mLst (aCons (mTup (aCons (mC (.str s_swaps)) (aCons (mSl dSl (mVarB 22) (oSome (mC (.int 1))) (oNone)) (aNil)))) (aCons (mTup (aCons (mC (.str s_swaps)) (aCons (mBin dAdd (mVarB 22) (mLst (aCons (mBin dSub (mCall takeM (aCons (mVar 1) (aCons (mC (.int 4)) (aNil)))) (mC (.int 1))) (aNil)))) (aNil)))) (aCons (mTup (aCons (mC (.str s_swaps)) (aCons (mRev (mVarB 22)) (aNil)))) (aCons (mTup (aCons (mC (.str s_apart)) (aCons (mC (.str s_x)) (aCons (mC (.str s_y)) (aNil))))) (aNil)))))) (mCall takeM (aCons (mVar 1) (aCons (mC (.int 4)) (aNil)))))) (mForget [22] mPass))) (mSeq (mSetV 23 (mBin dIx (mLst (aCons (mTup (aCons (mC (.str s_apart)) (aCons (mBin dIx (mVarB 6) (mC (.int 2))) (aCons (mBin dIx (mVarB 6) (mC (.int 1))) (aNil))))) (aCons (mTup (aCons (mC (.str s_apart)) (aCons (mBin dIx (mVarB 6) (mC (.int 1))) (aCons (mC (.str s_q)) (aNil))))) (aCons (mTup (aCons (mC (.str s_swaps)) (aCons (mLst (aNil)) (aNil)))) (aCons (mTup (aCons (mC (.str s_swaps)) (aCons (mLst (aCons (mCall takeM (aCons (mVar 1) (aCons (mC (.int 3)) (aNil)))) (aNil))) (aNil)))) (aCons (mTup (aCons (mC (.str s_apart)) (aCons (mBin dIx (mVarB 3) (mNeg (mC (.int 1)))) (aCons (mBin dIx (mVarB 3) (mC (.int 0))) (aNil))))) (aNil))))))) (mCall takeM (aCons (mVar 1) (aCons (mC (.int 5)) (aNil)))))) (mForget [22] mPass))) (mSeq (mIf (mBinT dNe (mCall (f_entails_fault n) (aCons (mVarB 13) (aCons (mVarB 14) (aCons (mVarB 23) (aNil))))) (mCall (f_law_fault n) (aCons (mVarB 13) (aCons (mVarB 14) (aCons (mVarB 23) (aNil)))))) (mRet (mC (.bl false))) (mPass)) (mForget [12, 22, 23] mPass)))
def law_r15 (n : Nat) : DS := mForget [12, 22, 23] (mSeq (law_s15 n) ((law_r16 n)))
def law_s14 (n : Nat) : DS := mFor (iRg2 (mBin dSub (mC (.int 0)) (mC (.int 1))) (mBin dAdd (mVarB 2) (mC (.int 1)))) (gV 11) (mSeq (mSetV 18 (mOrV (mNotV (mChain dLe dLt (mC (.int 0)) (mVarB 11) (mBin dSub (mVarB 2) (mC (.int 1))))) (mAndV (mBin dEq (mBin dIx (mBin dIx (mVarB 13) (mVarB 11)) (mC (.int 0))) (mC (.str s_all))) (mBin dEq (mBin dIx (mBin dIx (mVarB 13) (mBin dAdd (mVarB 11) (mC (.int 1)))) (mC (.int 0))) (mC (.str s_some)))))) (mSeq (mIf (mBinT dNe (mCall (f_swapped n) (aCons (mVarB 13) (aCons (mVarB 11) (aNil)))) (mIfE (mTru (mVarB 18)) (mC .non) (mBin dAdd (mBin dAdd (mSl dSl (mVarB 13) (oNone) (oSome (mVarB 11))) (mLst (aCons (mBin dIx (mVarB 13) (mBin dAdd (mVarB 11) (mC (.int 1)))) (aCons (mBin dIx (mVarB 13) (mVarB 11)) (aNil))))) (mSl dSl (mVarB 13) (oSome (mBin dAdd (mVarB 11) (mC (.int 2)))) (oNone))))) (mRet (mC (.bl false))) (mPass)) (mForget [11, 18] mPass)))
def law_r14 (n : Nat) : DS := mForget [11, 18] (mSeq (law_s14 n) ((law_r15 n)))
def law_s13 (n : Nat) : DS := mIf (mOr (mBinT dNotInX (mCall (f_plain_form n) (aCons (mVarB 13) (aNil))) (mVarB 10)) (mBinT dGt (mCall dLen (aCons (mLc [21] (iOver (mVarB 10)) (gV 21) (mBinT dNe (mCall (f_plain_form n) (aCons (mVarB 21) (aNil))) (mCall (f_plain_form n) (aCons (mVarB 13) (aNil)))) (mVar 21)) (aNil))) (mC (.int 0)))) (mRet (mC (.bl false))) (mPass)
def law_r13 (n : Nat) : DS := mSeq (law_s13 n) ((law_r14 n))
def law_s12 (n : Nat) : DS := mSetV 10 (mLc [21] (iOver (mVarB 5)) (gV 21) (mTru (mCall (f_are_alike n) (aCons (mVar 13) (aCons (mVar 21) (aNil))))) (mVar 21))
def law_r12 (n : Nat) : DS := mSeq (law_s12 n) ((law_r13 n))
def law_s11 (n : Nat) : DS := mIf (mBinT dEq (mBin dIx (mVarB 6) (mC (.int 0))) (mC (.str s_apart))) (mSeq (mSetV 17 (mCall (f_rows_apart n) (aCons (mVar 3) (aCons (mSl dSl (mVarB 6) (oSome (mC (.int 1))) (oNone)) (aNil))))) (mSeq (mIf (mBinT dNe (mVarB 17) (mLc [22] (iOver (mCall dSorted (aCons (mVarB 7) (aNil)))) (gV 22) (mBinT dEq (mBin dIx (mVarB 22) (mMeth dIndex (mVarB 3) (aCons (mBin dIx (mVarB 6) (mC (.int 1))) aNil))) (mBin dIx (mVarB 22) (mMeth dIndex (mVarB 3) (aCons (mBin dIx (mVarB 6) (mC (.int 2))) aNil)))) (mVar 22))) (mRet (mC (.bl false))) (mPass)) (mSeq (mIf (mOr (mNot (mTru (mCall (f_holds n) (aCons (mVarB 13) (aCons (mVarB 3) (aCons (mC (.int 2)) (aCons (mVarB 17) (aNil)))))))) (mTru (mCall (f_holds n) (aCons (mVarB 14) (aCons (mVarB 3) (aCons (mC (.int 2)) (aCons (mVarB 17) (aNil)))))))) (mRet (mC (.bl false))) (mPass)) (mForget [17] mPass)))) (mForget [17] mPass)
def law_r11 (n : Nat) : DS := mSeq (law_s11 n) ((law_r12 n))
def law_s10 (n : Nat) : DS := mIf (mOr (mBinT dNe (mBin dIx (mVarB 6) (mC (.int 0))) (mIfE (mTru (mVarB 15)) (mC (.str s_swaps)) (mC (.str s_apart)))) (mOr (mBinT dIsNot (mCall (f_law_fault n) (aCons (mVarB 13) (aCons (mVarB 14) (aCons (mVarB 6) (aNil))))) (mC .non)) (mOr (mBinT dIsNot (mCall (f_entails_fault n) (aCons (mVarB 13) (aCons (mVarB 14) (aCons (mVarB 6) (aNil))))) (mC .non)) (mBinT dNe (mCall (f_are_alike n) (aCons (mVar 13) (aCons (mVar 14) (aNil)))) (mAndV (mVar 15) (mVar 16)))))) (mRet (mC (.bl false))) (mPass)
def law_r10 (n : Nat) : DS := mSeq (law_s10 n) ((law_r11 n))
def law_s9 (n : Nat) : DS := mFor (iRg1 (mBin dShl (mC (.int 1)) (mCall dLen (aCons (mVarB 7) (aNil))))) (gV 9) (mSeq (mSetV 17 (mLc [24] (iRg1 (mCall dLen (aCons (mVarB 7) (aNil)))) (gV 24) (mBinT dEq (mBin dSub (mBin dFdiv (mVarB 9) (mBin dShl (mC (.int 1)) (mVarB 24))) (mBin dMul (mBin dFdiv (mVarB 9) (mBin dShl (mC (.int 2)) (mVarB 24))) (mC (.int 2)))) (mC (.int 1))) (mBin dIx (mVarB 7) (mVarB 24)))) (mSeq (mPar 19 20 (aCons (mCall (f_law_holds n) (aCons (mVarB 13) (aCons (mVarB 3) (aCons (mC (.int 2)) (aCons (mVarB 17) (aCons (mLst (aNil)) (aNil))))))) (aCons (mCall (f_law_holds n) (aCons (mVarB 14) (aCons (mVarB 3) (aCons (mC (.int 2)) (aCons (mVarB 17) (aCons (mLst (aNil)) (aNil))))))) (aNil)))) (mSeq (mPar 15 16 (aCons (mAndV (mVar 15) (mOrV (mVar 20) (mNotV (mVarB 19)))) (aCons (mAndV (mVar 16) (mOrV (mVar 19) (mNotV (mVarB 20)))) (aNil)))) (mSeq (mIf (mAnd (mBinT dLt (mVarB 9) (mC (.int 3))) (mBinT dNe (mCall (f_holds n) (aCons (mVarB 13) (aCons (mVarB 3) (aCons (mC (.int 2)) (aCons (mVarB 17) (aNil)))))) (mVarB 19))) (mRet (mC (.bl false))) (mPass)) (mForget [9, 17, 19, 20] mPass)))))
def law_r9 (n : Nat) : DS := mForget [9, 17, 19, 20] (mSeq (law_s9 n) ((law_r10 n)))
def law_s8 (n : Nat) : DS := mAsg (gT 2 (gsCons (gV 15) (gsCons (gV 16) (gsNil)))) (mTup (aCons (mC (.bl true)) (aCons (mC (.bl true)) (aNil))))
def law_r8 (n : Nat) : DS := mSeq (law_s8 n) ((law_r9 n))
def law_s7 (n : Nat) : DS := mFor (iOver (mVar 3)) (gV 8) (mSeq (mSetV 7 (mBin dAdd (mLc [22] (iOver (mVarB 7)) (gV 22) (mYes) (mBin dAdd (mVarB 22) (mTup (aCons (mC (.int 0)) (aNil))))) (mLc [22] (iOver (mVarB 7)) (gV 22) (mYes) (mBin dAdd (mVarB 22) (mTup (aCons (mC (.int 1)) (aNil))))))) (mForget [8] mPass))
def law_r7 (n : Nat) : DS := mForget [8] (mSeq (law_s7 n) ((law_r8 n)))
def law_s6 (n : Nat) : DS := mSetV 7 (mLst (aCons (mTup (aNil)) (aNil)))
def law_r6 (n : Nat) : DS := mSeq (law_s6 n) ((law_r7 n))
def law_s5 (n : Nat) : DS := mSetV 6 (mCall (f_entails n) (aCons (mVar 13) (aCons (mVarB 14) (aNil))))
def law_r5 (n : Nat) : DS := mSeq (law_s5 n) ((law_r6 n))
def law_s4 (n : Nat) : DS := mAsg (gT 2 (gsCons (gV 13) (gsCons (gV 14) (gsNil)))) (mTup (aCons (mBin dIx (mVarB 5) (mCall takeM (aCons (mVar 1) (aCons (mCall dLen (aCons (mVarB 5) (aNil))) (aNil))))) (aCons (mBin dIx (mVarB 5) (mCall takeM (aCons (mVar 1) (aCons (mCall dLen (aCons (mVarB 5) (aNil))) (aNil))))) (aNil))))
def law_r4 (n : Nat) : DS := mSeq (law_s4 n) ((law_r5 n))
def law_s3 (n : Nat) : DS := mSetV 5 (mCall (f_law_orders n) (aCons (mVar 4) (aNil)))
def law_r3 (n : Nat) : DS := mSeq (law_s3 n) ((law_r4 n))
def law_s2 (n : Nat) : DS := mSetV 4 (mLc [8] (iOver (mVarB 3)) (gV 8) (mYes) (mTup (aCons (mBin dIx (mLst (aCons (mC (.str s_all)) (aCons (mC (.str s_some)) (aNil)))) (mCall takeM (aCons (mVar 1) (aCons (mC (.int 2)) (aNil))))) (aCons (mVar 8) (aNil)))))
def law_r2 (n : Nat) : DS := mSeq (law_s2 n) ((law_r3 n))
def law_s1 (n : Nat) : DS := mSetV 3 (mSl dSl (mLst (aCons (mC (.str s_x)) (aCons (mC (.str s_y)) (aCons (mC (.str s_z)) (aNil))))) (oNone) (oSome (mVarB 2)))
def law_r1 (n : Nat) : DS := mSeq (law_s1 n) ((law_r2 n))
def law_s0 (n : Nat) : DS := mSetV 2 (mBin dAdd (mC (.int 1)) (mCall takeM (aCons (mVar 1) (aCons (mC (.int 3)) (aNil)))))
def law_r0 (n : Nat) : DS := mSeq (law_s0 n) ((law_r1 n))
def b_law (n : Nat) : DS := (law_r0 n)
structure Adr where
  a_holds : Addr
  d_holds : FuncData
  a_holds_from : Addr
  d_holds_from : FuncData
  a_parting_pair : Addr
  d_parting_pair : FuncData
  a_entails : Addr
  d_entails : FuncData
  a_swapped : Addr
  d_swapped : FuncData
  a_rows_apart : Addr
  d_rows_apart : FuncData
  a_entails_fault : Addr
  d_entails_fault : FuncData
  a_are_alike : Addr
  d_are_alike : FuncData
  a_plain_form : Addr
  d_plain_form : FuncData
  a_law_state : Addr
  d_law_state : FuncData
  a_law_take : Addr
  d_law_take : FuncData
  a_law_orders : Addr
  d_law_orders : FuncData
  a_law_holds : Addr
  d_law_holds : FuncData
  a_law_fault : Addr
  d_law_fault : FuncData
  a_law : Addr
  d_law : FuncData
structure Tb (K : PySem.W.Frag) (mg : Str → Option Value) (α : Adr) : Prop where
  F_holds : Fun K "holds" "holds" s_T_holds α.a_holds α.d_holds
  b_holds : Binds K α.d_holds ["prefix", "names", "size", "rows"] []
  m_holds : mg "holds" = some (.ref α.a_holds)
  F_holds_from : Fun K "holds_from" "holds_from" s_T_holds_from α.a_holds_from α.d_holds_from
  b_holds_from : Binds K α.d_holds_from ["prefix", "names", "size", "rows", "values"] []
  m_holds_from : mg "holds_from" = some (.ref α.a_holds_from)
  F_parting_pair : Fun K "parting_pair" "parting_pair" s_T_parting_pair α.a_parting_pair α.d_parting_pair
  b_parting_pair : Binds K α.d_parting_pair ["one", "other"] []
  m_parting_pair : mg "parting_pair" = some (.ref α.a_parting_pair)
  F_entails : Fun K "entails" "entails" s_T_entails α.a_entails α.d_entails
  b_entails : Binds K α.d_entails ["one", "other"] []
  m_entails : mg "entails" = some (.ref α.a_entails)
  F_swapped : Fun K "swapped" "swapped" s_T_swapped α.a_swapped α.d_swapped
  b_swapped : Binds K α.d_swapped ["prefix", "place"] []
  m_swapped : mg "swapped" = some (.ref α.a_swapped)
  F_rows_apart : Fun K "rows_apart" "rows_apart" s_T_rows_apart α.a_rows_apart α.d_rows_apart
  b_rows_apart : Binds K α.d_rows_apart ["names", "pair"] []
  m_rows_apart : mg "rows_apart" = some (.ref α.a_rows_apart)
  F_entails_fault : Fun K "entails_fault" "entails_fault" s_T_entails_fault α.a_entails_fault α.d_entails_fault
  b_entails_fault : Binds K α.d_entails_fault ["one", "other", "told"] []
  m_entails_fault : mg "entails_fault" = some (.ref α.a_entails_fault)
  F_are_alike : Fun K "are_alike" "are_alike" s_T_are_alike α.a_are_alike α.d_are_alike
  b_are_alike : Binds K α.d_are_alike ["one", "other"] []
  m_are_alike : mg "are_alike" = some (.ref α.a_are_alike)
  F_plain_form : Fun K "plain_form" "plain_form" s_T_plain_form α.a_plain_form α.d_plain_form
  b_plain_form : Binds K α.d_plain_form ["prefix"] []
  m_plain_form : mg "plain_form" = some (.ref α.a_plain_form)
  F_law_state : Fun K "_law_state" "_law_state" s_T_law_state α.a_law_state α.d_law_state
  b_law_state : Binds K α.d_law_state ["script"] []
  m_law_state : mg "_law_state" = some (.ref α.a_law_state)
  F_law_take : Fun K "_law_take" "_law_take" s_T_law_take α.a_law_take α.d_law_take
  b_law_take : Binds K α.d_law_take ["state", "most"] []
  m_law_take : mg "_law_take" = some (.ref α.a_law_take)
  F_law_orders : Fun K "_law_orders" "_law_orders" s_T_law_orders α.a_law_orders α.d_law_orders
  b_law_orders : Binds K α.d_law_orders ["left"] []
  m_law_orders : mg "_law_orders" = some (.ref α.a_law_orders)
  F_law_holds : Fun K "_law_holds" "_law_holds" s_T_law_holds α.a_law_holds α.d_law_holds
  b_law_holds : Binds K α.d_law_holds ["prefix", "names", "size", "rows", "values"] []
  m_law_holds : mg "_law_holds" = some (.ref α.a_law_holds)
  F_law_fault : Fun K "_law_fault" "_law_fault" s_T_law_fault α.a_law_fault α.d_law_fault
  b_law_fault : Binds K α.d_law_fault ["one", "other", "told"] []
  m_law_fault : mg "_law_fault" = some (.ref α.a_law_fault)
  F_law : Fun K "law" "law" s_T_law α.a_law α.d_law
  b_law : Binds K α.d_law ["script"] []
  m_law : mg "law" = some (.ref α.a_law)
  z_abs : mg "abs" = none
  z_all : mg "all" = none
  z_any : mg "any" = none
  z_dict : mg "dict" = none
  z_enumerate : mg "enumerate" = none
  z_int : mg "int" = none
  z_len : mg "len" = none
  z_list : mg "list" = none
  z_range : mg "range" = none
  z_sorted : mg "sorted" = none
  z_tuple : mg "tuple" = none
/-- all defs keep their promises, n calls deep -/
structure Ok (P : Program) (w : World) (K : PySem.W.Frag) (mg : Str → Option Value) (base : Heap) (α : Adr) (S : SA) (n : Nat) : Prop where
  holds : FnOk P w K mg base CX0 (n + 1) α.a_holds α.d_holds ["prefix", "names", "size", "rows"] (spD S [true, true, true, true] (f_holds n))
  holds_from : FnOk P w K mg base CX0 (n + 1) α.a_holds_from α.d_holds_from ["prefix", "names", "size", "rows", "values"] (spD S [true, true, true, true, true] (f_holds_from n))
  parting_pair : FnOk P w K mg base CX0 (n + 1) α.a_parting_pair α.d_parting_pair ["one", "other"] (spD S [false, true] (f_parting_pair n))
  entails : FnOk P w K mg base CX0 (n + 1) α.a_entails α.d_entails ["one", "other"] (spD S [false, true] (f_entails n))
  swapped : FnOk P w K mg base CX0 (n + 1) α.a_swapped α.d_swapped ["prefix", "place"] (spD S [true, true] (f_swapped n))
  rows_apart : FnOk P w K mg base CX0 (n + 1) α.a_rows_apart α.d_rows_apart ["names", "pair"] (spD S [false, true] (f_rows_apart n))
  entails_fault : FnOk P w K mg base CX0 (n + 1) α.a_entails_fault α.d_entails_fault ["one", "other", "told"] (spD S [true, true, true] (f_entails_fault n))
  are_alike : FnOk P w K mg base CX0 (n + 1) α.a_are_alike α.d_are_alike ["one", "other"] (spD S [false, false] (f_are_alike n))
  plain_form : FnOk P w K mg base CX0 (n + 1) α.a_plain_form α.d_plain_form ["prefix"] (spD S [true] (f_plain_form n))
  law_take : FnOk P w K mg base CX0 (n + 1) α.a_law_take α.d_law_take ["state", "most"] (spD S [false, false] takeM)
  law_orders : FnOk P w K mg base CX0 (n + 1) α.a_law_orders α.d_law_orders ["left"] (spD S [false] (f_law_orders n))
  law_holds : FnOk P w K mg base CX0 (n + 1) α.a_law_holds α.d_law_holds ["prefix", "names", "size", "rows", "values"] (spD S [true, true, true, true, true] (f_law_holds n))
  law_fault : FnOk P w K mg base CX0 (n + 1) α.a_law_fault α.d_law_fault ["one", "other", "told"] (spD S [true, true, true] (f_law_fault n))
section
variable {P : Program} {w : World} {K : PySem.W.Frag} {mg : Str → Option Value} {base : Heap} {α : Adr} {S : SA} {n : Nat}
theorem ok_holds_from (T : Tb K mg α) (I : Ok P w K mg base α S n) : FnOk P w K mg base CX0 (n + 1 + 1) α.a_holds_from α.d_holds_from ["prefix", "names", "size", "rows", "values"] (spD S [true, true, true, true, true] (f_holds_from (n + 1))) :=
  fn_ok [true, true, true, true, true] T.F_holds_from sc_holds_from rfl fun cdv A outer s H E hr =>
  (qs_cons (qif (qt_not (qtru (qvb 0)))
  (qs_one (qret (qcmp (o_inX (hu65 hr)) (qcallT c_tuple (by rfl) T.z_tuple (by decide +kernel) (qab_cons (qlc [("name", 7)] sc_holds_from.nd (qi_any (imCompOk _) (qvb 1).xc) (blkOk_by (N := N_holds_from) (sc := defScope s_T_holds_from) (by decide +kernel)) (fun _ _ _ _ _ => (qgv 7 sc_holds_from.nd)) (fun _ _ _ _ _ => qts_nil) (fun _ _ _ _ _ => (qix (hu1 hr) (qvb 4) (qvb 7)))).b qab_nil)).b (qvb 3))))
  qs_nil)
  (qs_cons (qasg [6, 7] (qix (hu1 hr) (qvb 0) qint.b) (qgt 2 (qgs_cons (qgv 6 sc_holds_from.nd) (qgs_cons (qgv 7 sc_holds_from.nd) qgs_nil))))
  (qs_cons (qsetLcV 5 [("thing", 8)] sc_holds_from.nd (qi_rg1 (by rfl) T.z_range (qvb 2)) (blkOk_by (N := N_holds_from) (sc := defScope s_T_holds_from) (by decide +kernel)) (fun _ _ _ _ _ => (qgv 8 sc_holds_from.nd)) (fun _ _ _ _ _ => qts_nil) (fun _ _ _ _ _ => (qcall I.holds_from hr (by rfl) T.m_holds_from T.F_holds_from.kp T.b_holds_from (qam_b (qsl (qvb 0) (qo_some qint.b) qo_none).b (qam_b (qvb 1) (qam_b (qvb 2) (qam_b (qvb 3) (qam_b (qstar (qvb 4) (qvb 7) (qv 8)).b qam_nil))))))) (sw_true rfl rfl rfl (by decide +kernel)))
  (qs_one (qret (qifE (qtcmp (o_eq (hu64 hr)) (qvb 6) (qstr s_all).b) (qcallB (c_all (by rfl)) (by rfl) T.z_all (by decide +kernel) (qab_cons (qvb 5) qab_nil)) (qcallB (c_any (by rfl)) (by rfl) T.z_any (by decide +kernel) (qab_cons (qvb 5) qab_nil))))))))
theorem ok_holds (T : Tb K mg α) (I : Ok P w K mg base α S n) : FnOk P w K mg base CX0 (n + 1 + 1) α.a_holds α.d_holds ["prefix", "names", "size", "rows"] (spD S [true, true, true, true] (f_holds (n + 1))) :=
  fn_ok [true, true, true, true] T.F_holds sc_holds rfl fun cdv A outer s H E hr =>
  (qs_one (qret (qcall I.holds_from hr (by rfl) T.m_holds_from T.F_holds_from.kp T.b_holds_from (qam_b (qvb 0) (qam_b (qvb 1) (qam_b (qvb 2) (qam_b (qvb 3) (qam_b qnewK.b qam_nil))))))))
theorem ok_parting_pair (T : Tb K mg α) (I : Ok P w K mg base α S n) : FnOk P w K mg base CX0 (n + 1 + 1) α.a_parting_pair α.d_parting_pair ["one", "other"] (spD S [false, true] (f_parting_pair (n + 1))) :=
  fn_ok [false, true] T.F_parting_pair sc_parting_pair rfl fun cdv A outer s H E hr =>
  (qforget [2, 3, 4, 5] (qs_cons (qfor [2, 4, 5] (qi_enum imForOk (by rfl) T.z_enumerate (qv 0).xf) (qgt 2 (qgs_cons (qgv 2 sc_parting_pair.nd) (qgs_cons (qgt 2 (qgs_cons (qgv 4 sc_parting_pair.nd) (qgs_cons (qgv 5 sc_parting_pair.nd) qgs_nil))) qgs_nil)))
  (qforget [3] (qs_cons (qfor [3] (qi_rg2 (by rfl) T.z_range (qbin o_add (qvb 2) qint.b).b (qcallB c_len (by rfl) T.z_len (by decide +kernel) (qab_cons (qvb 0) qab_nil)).b) (qgv 3 sc_parting_pair.nd)
  (qs_cons (qif (qw_and (qtcmp (o_eq (hu64 hr)) (qvb 4) (qstr s_all).b) (qw_and (qtcmp (o_eq (hu64 hr)) (qix (hu1 hr) (qix (hu1 hr) (qvb 0) (qvb 3)).b qint.b).b (qstr s_some).b) (qw_and1 (qtcmp o_lt (qindex (hu65 hr) (qvb 1) (qix (hu1 hr) (qvb 0) (qvb 3)).b).b (qindex (hu65 hr) (qvb 1) (qix (hu1 hr) (qvb 0) (qvb 2)).b).b)))).test
  (qs_one (qret (qtup (qa_cons (qv 5) (qa_cons (qix (hu1 hr) (qix (hu1 hr) (qvb 0) (qvb 3)).b qint.b) qa_nil)))))
  qs_nil) (qforget [3] qs_nil))) (qforget [2, 3, 4, 5] qs_nil))))
  (qs_one (qret qnon))))
theorem ok_entails (T : Tb K mg α) (I : Ok P w K mg base α S n) : FnOk P w K mg base CX0 (n + 1 + 1) α.a_entails α.d_entails ["one", "other"] (spD S [false, true] (f_entails (n + 1))) :=
  fn_ok [false, true] T.F_entails sc_entails rfl fun cdv A outer s H E hr =>
  (qs_cons (qset 2 sc_entails.nd (qcall I.parting_pair hr (by rfl) T.m_parting_pair T.F_parting_pair.kp T.b_parting_pair (qam_v (qv 0) (qam_b (qvb 1) qam_nil))))
  (qs_cons (qif (qtcmp o_isNot (qvb 2) qnon.b)
  (qs_one (qret (qbin o_add (qtup (qa_cons (qstr s_apart) qa_nil)).b (qvb 2))))
  qs_nil)
  (qs_cons (qset 3 sc_entails.nd (qcallTF c_list (by rfl) T.z_list (by decide +kernel) (qab_cons (qvb 0) qab_nil)).e)
  (qs_cons (qsetO 4 sc_entails.nd (qlst qa_nil))
  (qs_cons (qset 5 sc_entails.nd qbl)
  (qforget [6] (qs_cons (qwhile 100 (qtru (qvb 5))
  (qs_cons (qset 5 sc_entails.nd qbl)
  (qforget [6] (qs_cons (qfor [6] (qi_rg1 (by rfl) T.z_range (qbin o_sub (qcallB c_len (by rfl) T.z_len (by decide +kernel) (qab_cons (qvb 3) qab_nil)).b qint.b).b) (qgv 6 sc_entails.nd)
  (qs_cons (qif (qtcmp o_gt (qindex (hu65 hr) (qvb 1) (qix (hu1 hr) (qvb 3) (qvb 6)).b).b (qindex (hu65 hr) (qvb 1) (qix (hu1 hr) (qvb 3) (qbin o_add (qvb 6) qint.b).b).b).b)
  (qs_cons (qset 3 sc_entails.nd (qbin o_add (qbin o_add (qsl (qvb 3) qo_none (qo_some (qvb 6))).b (qlst (qa_cons (qix (hu1 hr) (qvb 3) (qbin o_add (qvb 6) qint.b).b) (qa_cons (qix (hu1 hr) (qvb 3) (qvb 6)) qa_nil))).b).b (qsl (qvb 3) (qo_some (qbin o_add (qvb 6) qint.b).b) qo_none).b))
  (qs_cons (qappend 4 (qv 6))
  (qs_cons (qset 5 sc_entails.nd qbl) (qforget [] qs_nil))))
  (qforget [] qs_nil)) (qforget [6] qs_nil))) (qforget [6] qs_nil)))))
  (qfrz 4 (qs_one (qret (qtup (qa_cons (qstr s_swaps) (qa_cons (qv 4) qa_nil)))))))))))))
theorem ok_swapped (T : Tb K mg α) (I : Ok P w K mg base α S n) : FnOk P w K mg base CX0 (n + 1 + 1) α.a_swapped α.d_swapped ["prefix", "place"] (spD S [true, true] (f_swapped (n + 1))) :=
  fn_ok [true, true] T.F_swapped sc_swapped rfl fun cdv A outer s H E hr =>
  (qs_cons (qif (qw_or (qt_not (qtchain o_le o_lt qint.b (qvb 1) (qbin o_sub (qcallB c_len (by rfl) T.z_len (by decide +kernel) (qab_cons (qvb 0) qab_nil)).b qint.b).b)) (qw_or1 (qw_and (qtcmp (o_eq (hu64 hr)) (qix (hu1 hr) (qix (hu1 hr) (qvb 0) (qvb 1)).b qint.b).b (qstr s_all).b) (qw_and1 (qtcmp (o_eq (hu64 hr)) (qix (hu1 hr) (qix (hu1 hr) (qvb 0) (qbin o_add (qvb 1) qint.b).b).b qint.b).b (qstr s_some).b))).test)).test
  (qs_one (qret qnon))
  qs_nil)
  (qs_one (qret (qbin o_add (qbin o_add (qsl (qvb 0) qo_none (qo_some (qvb 1))).b (qlst (qa_cons (qix (hu1 hr) (qvb 0) (qbin o_add (qvb 1) qint.b).b) (qa_cons (qix (hu1 hr) (qvb 0) (qvb 1)) qa_nil))).b).b (qsl (qvb 0) (qo_some (qbin o_add (qvb 1) qint.b).b) qo_none).b))))
theorem ok_rows_apart (T : Tb K mg α) (I : Ok P w K mg base α S n) : FnOk P w K mg base CX0 (n + 1 + 1) α.a_rows_apart α.d_rows_apart ["names", "pair"] (spD S [false, true] (f_rows_apart (n + 1))) :=
  fn_ok [false, true] T.F_rows_apart sc_rows_apart rfl fun cdv A outer s H E hr =>
  (qs_cons (qset 2 sc_rows_apart.nd (qlst (qa_cons (qtup qa_nil) qa_nil)).e)
  (qforget [3] (qs_cons (qfor [3] (qi_any imForOk (qv 0).xf) (qgv 3 sc_rows_apart.nd)
  (qs_cons (qsetLc2V 2 [("row", 6), ("thing", 7)] [7] sc_rows_apart.nd (qi_any (imCompOk _) (qvb 2).xc) (blkOk_by (N := N_rows_apart) (sc := defScope s_T_rows_apart) (by decide +kernel)) (fun _ _ _ _ _ => (qgv 6 sc_rows_apart.nd)) (fun _ _ _ _ _ => qts_nil) (fun _ _ _ _ _ => (qi_any (imCompOk _) (qtup (qa_cons qint (qa_cons qint qa_nil))).b.xc)) (fun _ _ _ _ _ => (qgv 7 sc_rows_apart.nd)) (fun _ _ _ _ _ => qts_nil) (fun _ _ _ _ _ => (qbin o_add (qvb 6) (qtup (qa_cons (qv 7) qa_nil)).b)) (sw_true rfl rfl rfl (by decide +kernel))) (qforget [3] qs_nil)))
  (qs_cons (qasg [4, 5] (qtup (qa_cons (qindex (hu65 hr) (qvb 0) (qix (hu1 hr) (qvb 1) qint.b).b) (qa_cons (qindex (hu65 hr) (qvb 0) (qix (hu1 hr) (qvb 1) qint.b).b) qa_nil))) (qgt 2 (qgs_cons (qgv 4 sc_rows_apart.nd) (qgs_cons (qgv 5 sc_rows_apart.nd) qgs_nil))))
  (qs_one (qret (qlc [("row", 6)] sc_rows_apart.nd (qi_any (imCompOk _) (qvb 2).xc) (blkOk_by (N := N_rows_apart) (sc := defScope s_T_rows_apart) (by decide +kernel)) (fun _ _ _ _ _ => (qgv 6 sc_rows_apart.nd)) (fun _ _ _ _ _ => (qts_one (qtcmp (o_eq (hu64 hr)) (qix (hu1 hr) (qvb 6) (qvb 4)).b (qix (hu1 hr) (qvb 6) (qvb 5)).b))) (fun _ _ _ _ _ => (qv 6))).e))))))
theorem ok_entails_fault (T : Tb K mg α) (I : Ok P w K mg base α S n) : FnOk P w K mg base CX0 (n + 1 + 1) α.a_entails_fault α.d_entails_fault ["one", "other", "told"] (spD S [true, true, true] (f_entails_fault (n + 1))) :=
  fn_ok [true, true, true] T.F_entails_fault sc_entails_fault rfl fun cdv A outer s H E hr =>
  (qs_cons (qif (qtcmp (o_eq (hu64 hr)) (qix (hu1 hr) (qvb 2) qint.b).b (qstr s_swaps).b)
  (qs_cons (qset 5 sc_entails_fault.nd (qcallTF c_list (by rfl) T.z_list (by decide +kernel) (qab_cons (qvb 0) qab_nil)).e)
  (qforget [6, 7] (qs_cons (qfor [6, 7] (qi_enum imForOk (by rfl) T.z_enumerate (qix (hu1 hr) (qvb 2) qint.b).xf) (qgt 2 (qgs_cons (qgv 6 sc_entails_fault.nd) (qgs_cons (qgv 7 sc_entails_fault.nd) qgs_nil)))
  (qs_cons (qset 5 sc_entails_fault.nd (qcall I.swapped hr (by rfl) T.m_swapped T.F_swapped.kp T.b_swapped (qam_b (qvb 5) (qam_b (qvb 7) qam_nil))))
  (qs_cons (qif (qtcmp o_is (qvb 5) qnon.b)
  (qs_one (qret (qtup (qa_cons (qstr s_swap) (qa_cons (qv 6) qa_nil)))))
  qs_nil) (qforget [6, 7] qs_nil))))
  (qs_one (qret (qifE (qtcmp (o_eq (hu64 hr)) (qvb 5) (qvb 1)) qnon (qtup (qa_cons (qstr s_other) qa_nil))))))))
  (qforget [5, 6, 7] qs_nil))
  (qs_cons (qset 3 sc_entails_fault.nd (qtup (qa_cons (qtup (qa_cons (qstr s_all) (qa_cons (qix (hu1 hr) (qvb 2) qint.b) qa_nil))) (qa_cons (qtup (qa_cons (qstr s_some) (qa_cons (qix (hu1 hr) (qvb 2) qint.b) qa_nil))) qa_nil))))
  (qs_cons (qif (qw_or (qtcmp (o_notInX (hu65 hr)) (qix (hu1 hr) (qvb 3) qint.b).b (qvb 0)) (qw_or1 (qtcmp (o_notInX (hu65 hr)) (qix (hu1 hr) (qvb 3) qint.b).b (qvb 0)))).test
  (qs_one (qret (qtup (qa_cons (qstr s_names) qa_nil))))
  qs_nil)
  (qs_cons (qset 4 sc_entails_fault.nd (qandV (qcmp o_lt (qindex (hu65 hr) (qvb 0) (qix (hu1 hr) (qvb 3) qint.b).b).b (qindex (hu65 hr) (qvb 0) (qix (hu1 hr) (qvb 3) qint.b).b).b) (qe_one (qcmp o_lt (qindex (hu65 hr) (qvb 1) (qix (hu1 hr) (qvb 3) qint.b).b).b (qindex (hu65 hr) (qvb 1) (qix (hu1 hr) (qvb 3) qint.b).b).b))))
  (qs_one (qret (qifE (qtru (qvb 4)) qnon (qtup (qa_cons (qstr s_pair) qa_nil)))))))))
theorem ok_are_alike (T : Tb K mg α) (I : Ok P w K mg base α S n) : FnOk P w K mg base CX0 (n + 1 + 1) α.a_are_alike α.d_are_alike ["one", "other"] (spD S [false, false] (f_are_alike (n + 1))) :=
  fn_ok [false, false] T.F_are_alike sc_are_alike rfl fun cdv A outer s H E hr =>
  (qs_one (qret (qandV (qcmp o_is (qcall I.parting_pair hr (by rfl) T.m_parting_pair T.F_parting_pair.kp T.b_parting_pair (qam_v (qv 0) (qam_b (qvb 1) qam_nil))).b qnon.b) (qe_one (qcmp o_is (qcall I.parting_pair hr (by rfl) T.m_parting_pair T.F_parting_pair.kp T.b_parting_pair (qam_v (qv 1) (qam_b (qvb 0) qam_nil))).b qnon.b)))))
theorem ok_plain_form (T : Tb K mg α) (I : Ok P w K mg base α S n) : FnOk P w K mg base CX0 (n + 1 + 1) α.a_plain_form α.d_plain_form ["prefix"] (spD S [true] (f_plain_form (n + 1))) :=
  fn_ok [true] T.F_plain_form sc_plain_form rfl fun cdv A outer s H E hr =>
  (qs_cons (qset 1 sc_plain_form.nd (qlst qa_nil).e)
  (qs_cons (qset 2 sc_plain_form.nd qint)
  (qforget [3] (qs_cons (qwhile 100 (qtcmp o_lt (qvb 2) (qcallB c_len (by rfl) T.z_len (by decide +kernel) (qab_cons (qvb 0) qab_nil)).b)
  (qs_cons (qset 3 sc_plain_form.nd (qv 2))
  (qs_cons (qwhile 100 (qw_and (qtcmp o_lt (qvb 3) (qcallB c_len (by rfl) T.z_len (by decide +kernel) (qab_cons (qvb 0) qab_nil)).b) (qw_and1 (qtcmp (o_eq (hu64 hr)) (qix (hu1 hr) (qix (hu1 hr) (qvb 0) (qvb 3)).b qint.b).b (qix (hu1 hr) (qix (hu1 hr) (qvb 0) (qvb 2)).b qint.b).b))).test
  (qs_cons (qset 3 sc_plain_form.nd (qbin o_add (qvb 3) qint.b)) (qforget [] qs_nil)))
  (qs_cons (qset 1 sc_plain_form.nd (qbin o_add (qvb 1) (qcallBF (c_sorted (hu64 hr)) (by rfl) T.z_sorted (by decide +kernel) (qab_cons (qsl (qvb 0) (qo_some (qvb 2)) (qo_some (qvb 3))).b qab_nil)).b))
  (qs_cons (qset 2 sc_plain_form.nd (qv 3)) (qforget [3] qs_nil))))))
  (qs_one (qret (qv 1)))))))
theorem ok_law_orders (T : Tb K mg α) (I : Ok P w K mg base α S n) : FnOk P w K mg base CX0 (n + 1 + 1) α.a_law_orders α.d_law_orders ["left"] (spD S [false] (f_law_orders (n + 1))) :=
  fn_ok [false] T.F_law_orders sc_law_orders rfl fun cdv A outer s H E hr =>
  (qs_cons (qif (qtcmp (o_eq (hu64 hr)) (qcallB c_len (by rfl) T.z_len (by decide +kernel) (qab_cons (qvb 0) qab_nil)).b qint.b)
  (qs_one (qret (qlst (qa_cons (qlst qa_nil).e qa_nil)).e))
  qs_nil)
  (qs_cons (qsetO 1 sc_law_orders.nd (qlst qa_nil))
  (qforget [2] (qs_cons (qfor [2] (qi_any imForOk (qv 0).xf) (qgv 2 sc_law_orders.nd)
  (qs_cons (qextend 1 (qlc [("row", 3)] sc_law_orders.nd (qi_any (imCompOk _) (qcall I.law_orders hr (by rfl) T.m_law_orders T.F_law_orders.kp T.b_law_orders (qam_v (qlc [("other", 4)] sc_law_orders.nd (qi_any (imCompOk _) (qvb 0).xc) (blkOk_by (N := N_law_orders) (sc := defScope s_T_law_orders) (by decide +kernel)) (fun _ _ _ _ _ => (qgv 4 sc_law_orders.nd)) (fun _ _ _ _ _ => (qts_one (qtcmp (o_ne (hu64 hr)) (qvb 4) (qvb 2)))) (fun _ _ _ _ _ => (qv 4))).e qam_nil)).b.xc) (blkOk_by (N := N_law_orders) (sc := defScope s_T_law_orders) (by decide +kernel)) (fun _ _ _ _ _ => (qgv 3 sc_law_orders.nd)) (fun _ _ _ _ _ => qts_nil) (fun _ _ _ _ _ => (qbin o_add (qlst (qa_cons (qv 2) qa_nil)).b (qvb 3)))).b) (qforget [2] qs_nil)))
  (qfrz 1 (qs_one (qret (qv 1))))))))
theorem ok_law_holds (T : Tb K mg α) (I : Ok P w K mg base α S n) : FnOk P w K mg base CX0 (n + 1 + 1) α.a_law_holds α.d_law_holds ["prefix", "names", "size", "rows", "values"] (spD S [true, true, true, true, true] (f_law_holds (n + 1))) :=
  fn_ok [true, true, true, true, true] T.F_law_holds sc_law_holds rfl fun cdv A outer s H E hr =>
  (qs_cons (qif (qtcmp (o_eq (hu64 hr)) (qcallB c_len (by rfl) T.z_len (by decide +kernel) (qab_cons (qvb 0) qab_nil)).b qint.b)
  (qs_one (qret (qcmp (o_inX (hu65 hr)) (qcallT c_tuple (by rfl) T.z_tuple (by decide +kernel) (qab_cons (qlc [("name", 7)] sc_law_holds.nd (qi_any (imCompOk _) (qvb 1).xc) (blkOk_by (N := N_law_holds) (sc := defScope s_T_law_holds) (by decide +kernel)) (fun _ _ _ _ _ => (qgv 7 sc_law_holds.nd)) (fun _ _ _ _ _ => qts_nil) (fun _ _ _ _ _ => (qix (hu1 hr) (qcallTF (c_dict (by rfl)) (by rfl) T.z_dict (by decide +kernel) (qab_cons (qvb 4) qab_nil)).b (qvb 7)))).b qab_nil)).b (qvb 3))))
  qs_nil)
  (qs_cons (qsetLcV 5 [("thing", 6)] sc_law_holds.nd (qi_rg1 (by rfl) T.z_range (qvb 2)) (blkOk_by (N := N_law_holds) (sc := defScope s_T_law_holds) (by decide +kernel)) (fun _ _ _ _ _ => (qgv 6 sc_law_holds.nd)) (fun _ _ _ _ _ => qts_nil) (fun _ _ _ _ _ => (qcall I.law_holds hr (by rfl) T.m_law_holds T.F_law_holds.kp T.b_law_holds (qam_b (qsl (qvb 0) (qo_some qint.b) qo_none).b (qam_b (qvb 1) (qam_b (qvb 2) (qam_b (qvb 3) (qam_b (qbin o_add (qvb 4) (qlst (qa_cons (qtup (qa_cons (qix (hu1 hr) (qix (hu1 hr) (qvb 0) qint.b).b qint.b) (qa_cons (qv 6) qa_nil))) qa_nil)).b).b qam_nil))))))) (sw_true rfl rfl rfl (by decide +kernel)))
  (qs_one (qret (qifE (qtcmp (o_eq (hu64 hr)) (qix (hu1 hr) (qix (hu1 hr) (qvb 0) qint.b).b qint.b).b (qstr s_all).b) (qcmp (o_eq (hu64 hr)) (qcallB c_len (by rfl) T.z_len (by decide +kernel) (qab_cons (qlc [("one", 8)] sc_law_holds.nd (qi_any (imCompOk _) (qvb 5).xc) (blkOk_by (N := N_law_holds) (sc := defScope s_T_law_holds) (by decide +kernel)) (fun _ _ _ _ _ => (qgv 8 sc_law_holds.nd)) (fun _ _ _ _ _ => (qts_one (qtru (qvb 8)))) (fun _ _ _ _ _ => (qv 8))).b qab_nil)).b (qvb 2)) (qcmp o_gt (qcallB c_len (by rfl) T.z_len (by decide +kernel) (qab_cons (qlc [("one", 8)] sc_law_holds.nd (qi_any (imCompOk _) (qvb 5).xc) (blkOk_by (N := N_law_holds) (sc := defScope s_T_law_holds) (by decide +kernel)) (fun _ _ _ _ _ => (qgv 8 sc_law_holds.nd)) (fun _ _ _ _ _ => (qts_one (qtru (qvb 8)))) (fun _ _ _ _ _ => (qv 8))).b qab_nil)).b qint.b))))))
theorem ok_law_fault (T : Tb K mg α) (I : Ok P w K mg base α S n) : FnOk P w K mg base CX0 (n + 1 + 1) α.a_law_fault α.d_law_fault ["one", "other", "told"] (spD S [true, true, true] (f_law_fault (n + 1))) :=
  fn_ok [true, true, true] T.F_law_fault sc_law_fault rfl fun cdv A outer s H E hr =>
  (qs_cons (qif (qtcmp (o_eq (hu64 hr)) (qix (hu1 hr) (qvb 2) qint.b).b (qstr s_swaps).b)
  (qs_cons (qset 3 sc_law_fault.nd (qcallTF c_list (by rfl) T.z_list (by decide +kernel) (qab_cons (qvb 0) qab_nil)).e)
  (qforget [4, 7] (qs_cons (qfor [4] (qi_rg1 (by rfl) T.z_range (qcallB c_len (by rfl) T.z_len (by decide +kernel) (qab_cons (qix (hu1 hr) (qvb 2) qint.b).b qab_nil)).b) (qgv 4 sc_law_fault.nd)
  (qs_cons (qset 7 sc_law_fault.nd (qix (hu1 hr) (qix (hu1 hr) (qvb 2) qint.b).b (qvb 4)))
  (qs_cons (qif (qw_or (qt_not (qtchain o_le o_lt qint.b (qvb 7) (qbin o_sub (qcallB c_len (by rfl) T.z_len (by decide +kernel) (qab_cons (qvb 3) qab_nil)).b qint.b).b)) (qw_or1 (qw_and (qtcmp (o_eq (hu64 hr)) (qix (hu1 hr) (qix (hu1 hr) (qvb 3) (qvb 7)).b qint.b).b (qstr s_all).b) (qw_and1 (qtcmp (o_eq (hu64 hr)) (qix (hu1 hr) (qix (hu1 hr) (qvb 3) (qbin o_add (qvb 7) qint.b).b).b qint.b).b (qstr s_some).b))).test)).test
  (qs_one (qret (qtup (qa_cons (qstr s_swap) (qa_cons (qv 4) qa_nil)))))
  qs_nil)
  (qs_cons (qset 3 sc_law_fault.nd (qbin o_add (qbin o_add (qsl (qvb 3) qo_none (qo_some (qvb 7))).b (qlst (qa_cons (qix (hu1 hr) (qvb 3) (qbin o_add (qvb 7) qint.b).b) (qa_cons (qix (hu1 hr) (qvb 3) (qvb 7)) qa_nil))).b).b (qsl (qvb 3) (qo_some (qbin o_add (qvb 7) qint.b).b) qo_none).b)) (qforget [4, 7] qs_nil)))))
  (qs_one (qret (qifE (qtcmp (o_eq (hu64 hr)) (qvb 3) (qvb 1)) qnon (qtup (qa_cons (qstr s_other) qa_nil))))))))
  (qforget [3, 4, 7] qs_nil))
  (qs_cons (qif (qw_or (qtcmp (o_notInX (hu65 hr)) (qtup (qa_cons (qstr s_all) (qa_cons (qix (hu1 hr) (qvb 2) qint.b) qa_nil))).b (qvb 0)) (qw_or1 (qtcmp (o_notInX (hu65 hr)) (qtup (qa_cons (qstr s_some) (qa_cons (qix (hu1 hr) (qvb 2) qint.b) qa_nil))).b (qvb 0)))).test
  (qs_one (qret (qtup (qa_cons (qstr s_names) qa_nil))))
  qs_nil)
  (qs_cons (qpar 5 6 sc_law_fault.nd (qa_cons (qtup (qa_cons (qstr s_all) (qa_cons (qix (hu1 hr) (qvb 2) qint.b) qa_nil))) (qa_cons (qtup (qa_cons (qstr s_some) (qa_cons (qix (hu1 hr) (qvb 2) qint.b) qa_nil))) qa_nil)))
  (qs_one (qret (qifE (qw_and (qtcmp o_lt (qindex (hu65 hr) (qvb 0) (qvb 5)).b (qindex (hu65 hr) (qvb 0) (qvb 6)).b) (qw_and1 (qtcmp o_lt (qindex (hu65 hr) (qvb 1) (qvb 6)).b (qindex (hu65 hr) (qvb 1) (qvb 5)).b))).test qnon (qtup (qa_cons (qstr s_pair) qa_nil))))))))
theorem ok_law_take (T : Tb K mg α) : FnOk P w K mg base CX0 1 α.a_law_take α.d_law_take ["state", "most"] (spTake S) := by
  refine T.F_law_take.ok sc_law_take (fun vs H Q E h => ?_) (fun cdv A outer s H vs Q E hr h => ⟨tTake K, pss_cons (ps_set (i := 2) sc_law_take.nd rfl (Or.inl rfl) (pe_ix ix_seq (pv 0) pe_int fun _ _ => rfl))
    (pss_cons (ps_set (i := 3) sc_law_take.nd rfl (Or.inl rfl) (pe_op op_mod (pe_ix ix_seq (pv 0) pe_int fun _ _ => rfl) (pe_callB call_len rfl T.z_len boot_len (pa_cons (pv 2) pa_nil))))
    (pss_cons (ps_set (i := 4) sc_law_take.nd rfl (Or.inl rfl) (pe_ix ix_seq (pv 2) (pv 3) fun _ _ => rfl))
    (pss_cons (ps_if (pt_cmpR op_ge (pv 4) pe_int (nomark _))
      (pss_cons (ps_asg (pe_op op_fdiv (pv 4) (pv 1)) (pg_sub (pv 2) (pv 3) set_list (by intro _; rfl)) (by rfl) (by rfl) (by rfl)) (pss_one (ps_ret (pe_op op_mod (pv 4) (pv 1)))))
      pss_nil)
    (pss_cons (ps_asg (pe_op op_add (pe_ix ix_seq (pv 0) pe_int fun _ _ => rfl) pe_int) (pg_sub (pv 0) pe_int set_list (by intro _; rfl)) (by rfl) (by rfl) (by rfl))
    (pss_cons (ps_set (i := 5) sc_law_take.nd rfl (Or.inl rfl) (pe_op op_mod (pe_callTy call_int1 rfl T.z_int (by decide +kernel) (pa_cons (pe_op op_add (pe_op op_mul (pv 4) pe_int) (pe_op op_mul (pe_ix ix_seq (pv 0) pe_int fun _ _ => rfl) pe_int)) pa_nil)) pe_int))
    (pss_cons (ps_set (i := 5) sc_law_take.nd rfl (Or.inl rfl) (pe_op op_mod (pe_callTy call_int1 rfl T.z_int (by decide +kernel) (pa_cons (pe_op op_add (pe_op op_mul (pv 5) pe_int) (pe_op op_mul (pe_ix ix_seq (pv 0) pe_int fun _ _ => rfl) pe_int)) pa_nil)) pe_int))
    (pss_one (ps_ret (pe_op op_mod (pe_op op_fdiv (pv 5) pe_int) (pv 1)))))))))), take_run h⟩)
  obtain ⟨k, rfl, _⟩ := h; rfl
theorem ok_law_state (T : Tb K mg α) : FnOk P w K mg base CX0 1 α.a_law_state α.d_law_state ["script"] (spState K) := by
  refine T.F_law_state.ok sc_law_state (fun vs H Q E h => ?_) (fun cdv A outer s H vs Q E hr h => ⟨tState K, pss_cons (ps_setLc (i := 1) (own := [("cell", 2)]) (g := gName 2) (tt := tYes) rfl sc_law_state.nd rfl rfl (sw_true rfl rfl rfl (by decide +kernel)) (pi_list (pe_slice sl_list (pv 0) po_none (po_some pe_int))) (blkOk_by (N := N_law_state) (sc := defScope s_T_law_state) (by decide +kernel)) (fun _ _ _ _ _ => pg_name (i := 2) sc_law_state.nd rfl (Or.inl rfl)) (fun _ _ _ _ _ => pts_nil) (fun _ _ _ _ _ => pe_callB call_abs rfl T.z_abs (by decide +kernel) (pa_cons (pv 2) pa_nil)))
    (pss_cons (ps_if (pt_cmpR op_eq (pe_callB call_len rfl T.z_len boot_len (pa_cons (pv 1) pa_nil)) pe_int (nomark _)) (pss_one (ps_set (i := 1) sc_law_state.nd rfl (Or.inl rfl) (pe_lst (pa_cons pe_int pa_nil)))) pss_nil)
    (pss_one (ps_ret (pe_lst (pa_cons pe_int (pa_cons (pv 1) pa_nil)))))), state_run h⟩)
  obtain ⟨a, ns, rfl, _⟩ := h; rfl
theorem ok_law (T : Tb K mg α) (I : ∀ S, Ok P w K mg base α S n) (hm : (b_law n (none :: some (.val .stt) :: List.replicate 23 none)).wp fun r => r.1 = .rt (.bl true)) : FnOk P w K mg base CX0 (n + 1 + 1) α.a_law α.d_law ["script"] (spLawD K) := by
  refine T.F_law.ok sc_law (fun vs H Q E h => ?_) (fun cdv A outer s H vs Q E hr h => ⟨tSeq (tAsg (tCall (spState K) [] E0 (tCons (tVar 0) tNil)) (gName 1)) (TA_ (b_law n)), pss_cons (ps_set (i := 1) sc_law.nd rfl (Or.inr rfl) (pe_call ((ok_law_state T).mono (by omega)) hr rfl T.m_law_state T.F_law_state.kp T.b_law_state .nil pass0 (pa_cons (pv 0) pa_nil))) (pss_any fun S => by
      have I := I S
      exact (qs_cons (qset 2 sc_law.nd (qbin o_add qint.b (qcall I.law_take hr (by rfl) T.m_law_take T.F_law_take.kp T.b_law_take (qam_v (qv 1) (qam_v qint qam_nil))).b))
  (qs_cons (qset 3 sc_law.nd (qsl (qlst (qa_cons (qstr s_x) (qa_cons (qstr s_y) (qa_cons (qstr s_z) qa_nil)))).b qo_none (qo_some (qvb 2))))
  (qs_cons (qsetLcV 4 [("name", 8)] sc_law.nd (qi_any (imCompOk _) (qvb 3).xc) (blkOk_by (N := N_law) (sc := defScope s_T_law) (by decide +kernel)) (fun _ _ _ _ _ => (qgv 8 sc_law.nd)) (fun _ _ _ _ _ => qts_nil) (fun _ _ _ _ _ => (qtup (qa_cons (qix (hu1 hr) (qlst (qa_cons (qstr s_all) (qa_cons (qstr s_some) qa_nil))).b (qcall I.law_take hr (by rfl) T.m_law_take T.F_law_take.kp T.b_law_take (qam_v (qv 1) (qam_v qint qam_nil))).b) (qa_cons (qv 8) qa_nil)))) (sw_true rfl rfl rfl (by decide +kernel)))
  (qs_cons (qset 5 sc_law.nd (qcall I.law_orders hr (by rfl) T.m_law_orders T.F_law_orders.kp T.b_law_orders (qam_v (qv 4) qam_nil)))
  (qs_cons (qasg [13, 14] (qtup (qa_cons (qix (hu1 hr) (qvb 5) (qcall I.law_take hr (by rfl) T.m_law_take T.F_law_take.kp T.b_law_take (qam_v (qv 1) (qam_v (qcallB c_len (by rfl) T.z_len (by decide +kernel) (qab_cons (qvb 5) qab_nil)) qam_nil))).b) (qa_cons (qix (hu1 hr) (qvb 5) (qcall I.law_take hr (by rfl) T.m_law_take T.F_law_take.kp T.b_law_take (qam_v (qv 1) (qam_v (qcallB c_len (by rfl) T.z_len (by decide +kernel) (qab_cons (qvb 5) qab_nil)) qam_nil))).b) qa_nil))) (qgt 2 (qgs_cons (qgv 13 sc_law.nd) (qgs_cons (qgv 14 sc_law.nd) qgs_nil))))
  (qs_cons (qset 6 sc_law.nd (qcall I.entails hr (by rfl) T.m_entails T.F_entails.kp T.b_entails (qam_v (qv 13) (qam_b (qvb 14) qam_nil))))
  (qs_cons (qset 7 sc_law.nd (qlst (qa_cons (qtup qa_nil) qa_nil)).e)
  (qforget [8] (qs_cons (qfor [8] (qi_any imForOk (qv 3).xf) (qgv 8 sc_law.nd)
  (qs_cons (qset 7 sc_law.nd (qbin o_add (qlc [("row", 22)] sc_law.nd (qi_any (imCompOk _) (qvb 7).xc) (blkOk_by (N := N_law) (sc := defScope s_T_law) (by decide +kernel)) (fun _ _ _ _ _ => (qgv 22 sc_law.nd)) (fun _ _ _ _ _ => qts_nil) (fun _ _ _ _ _ => (qbin o_add (qvb 22) (qtup (qa_cons qint qa_nil)).b))).b (qlc [("row", 22)] sc_law.nd (qi_any (imCompOk _) (qvb 7).xc) (blkOk_by (N := N_law) (sc := defScope s_T_law) (by decide +kernel)) (fun _ _ _ _ _ => (qgv 22 sc_law.nd)) (fun _ _ _ _ _ => qts_nil) (fun _ _ _ _ _ => (qbin o_add (qvb 22) (qtup (qa_cons qint qa_nil)).b))).b)) (qforget [8] qs_nil)))
  (qs_cons (qasg [15, 16] (qtup (qa_cons qbl (qa_cons qbl qa_nil))) (qgt 2 (qgs_cons (qgv 15 sc_law.nd) (qgs_cons (qgv 16 sc_law.nd) qgs_nil))))
  (qforget [9, 17, 19, 20] (qs_cons (qfor [9] (qi_rg1 (by rfl) T.z_range (qbin o_shl qint.b (qcallB c_len (by rfl) T.z_len (by decide +kernel) (qab_cons (qvb 7) qab_nil)).b).b) (qgv 9 sc_law.nd)
  (qs_cons (qsetLcV 17 [("k", 24)] sc_law.nd (qi_rg1 (by rfl) T.z_range (qcallB c_len (by rfl) T.z_len (by decide +kernel) (qab_cons (qvb 7) qab_nil)).b) (blkOk_by (N := N_law) (sc := defScope s_T_law) (by decide +kernel)) (fun _ _ _ _ _ => (qgv 24 sc_law.nd)) (fun _ _ _ _ _ => (qts_one (qtcmp (o_eq (hu64 hr)) (qbin o_sub (qbin o_fdiv (qvb 9) (qbin o_shl qint.b (qvb 24)).b).b (qbin o_mul (qbin o_fdiv (qvb 9) (qbin o_shl qint.b (qvb 24)).b).b qint.b).b).b qint.b))) (fun _ _ _ _ _ => (qix (hu1 hr) (qvb 7) (qvb 24))) (sw_true rfl rfl rfl (by decide +kernel)))
  (qs_cons (qpar 19 20 sc_law.nd (qa_cons (qcall I.law_holds hr (by rfl) T.m_law_holds T.F_law_holds.kp T.b_law_holds (qam_b (qvb 13) (qam_b (qvb 3) (qam_b qint.b (qam_b (qvb 17) (qam_b (qlst qa_nil).b qam_nil)))))) (qa_cons (qcall I.law_holds hr (by rfl) T.m_law_holds T.F_law_holds.kp T.b_law_holds (qam_b (qvb 14) (qam_b (qvb 3) (qam_b qint.b (qam_b (qvb 17) (qam_b (qlst qa_nil).b qam_nil)))))) qa_nil)))
  (qs_cons (qpar 15 16 sc_law.nd (qa_cons (qandV (qv 15) (qe_one (qorV (qv 20) (qe_one (qnotV (qvb 19)))))) (qa_cons (qandV (qv 16) (qe_one (qorV (qv 19) (qe_one (qnotV (qvb 20)))))) qa_nil)))
  (qs_cons (qif (qw_and (qtcmp o_lt (qvb 9) qint.b) (qw_and1 (qtcmp (o_ne (hu64 hr)) (qcall I.holds hr (by rfl) T.m_holds T.F_holds.kp T.b_holds (qam_b (qvb 13) (qam_b (qvb 3) (qam_b qint.b (qam_b (qvb 17) qam_nil))))).b (qvb 19)))).test
  (qs_one (qret qbl))
  qs_nil) (qforget [9, 17, 19, 20] qs_nil))))))
  (qs_cons (qif (qw_or (qtcmp (o_ne (hu64 hr)) (qix (hu1 hr) (qvb 6) qint.b).b (qifE (qtru (qvb 15)) (qstr s_swaps) (qstr s_apart)).b) (qw_or (qtcmp o_isNot (qcall I.law_fault hr (by rfl) T.m_law_fault T.F_law_fault.kp T.b_law_fault (qam_b (qvb 13) (qam_b (qvb 14) (qam_b (qvb 6) qam_nil)))).b qnon.b) (qw_or (qtcmp o_isNot (qcall I.entails_fault hr (by rfl) T.m_entails_fault T.F_entails_fault.kp T.b_entails_fault (qam_b (qvb 13) (qam_b (qvb 14) (qam_b (qvb 6) qam_nil)))).b qnon.b) (qw_or1 (qtcmp (o_ne (hu64 hr)) (qcall I.are_alike hr (by rfl) T.m_are_alike T.F_are_alike.kp T.b_are_alike (qam_v (qv 13) (qam_v (qv 14) qam_nil))).b (qandV (qv 15) (qe_one (qv 16))).b))))).test
  (qs_one (qret qbl))
  qs_nil)
  (qs_cons (qif (qtcmp (o_eq (hu64 hr)) (qix (hu1 hr) (qvb 6) qint.b).b (qstr s_apart).b)
  (qs_cons (qset 17 sc_law.nd (qcall I.rows_apart hr (by rfl) T.m_rows_apart T.F_rows_apart.kp T.b_rows_apart (qam_v (qv 3) (qam_b (qsl (qvb 6) (qo_some qint.b) qo_none).b qam_nil))))
  (qs_cons (qif (qtcmp (o_ne (hu64 hr)) (qvb 17) (qlc [("row", 22)] sc_law.nd (qi_any (imCompOk _) (qcallBF (c_sorted (hu64 hr)) (by rfl) T.z_sorted (by decide +kernel) (qab_cons (qvb 7) qab_nil)).b.xc) (blkOk_by (N := N_law) (sc := defScope s_T_law) (by decide +kernel)) (fun _ _ _ _ _ => (qgv 22 sc_law.nd)) (fun _ _ _ _ _ => (qts_one (qtcmp (o_eq (hu64 hr)) (qix (hu1 hr) (qvb 22) (qindex (hu65 hr) (qvb 3) (qix (hu1 hr) (qvb 6) qint.b).b).b).b (qix (hu1 hr) (qvb 22) (qindex (hu65 hr) (qvb 3) (qix (hu1 hr) (qvb 6) qint.b).b).b).b))) (fun _ _ _ _ _ => (qv 22))).b)
  (qs_one (qret qbl))
  qs_nil)
  (qs_cons (qif (qw_or (qt_not (qtru (qcall I.holds hr (by rfl) T.m_holds T.F_holds.kp T.b_holds (qam_b (qvb 13) (qam_b (qvb 3) (qam_b qint.b (qam_b (qvb 17) qam_nil))))).b)) (qw_or1 (qtru (qcall I.holds hr (by rfl) T.m_holds T.F_holds.kp T.b_holds (qam_b (qvb 14) (qam_b (qvb 3) (qam_b qint.b (qam_b (qvb 17) qam_nil))))).b))).test
  (qs_one (qret qbl))
  qs_nil) (qforget [17] qs_nil))))
  (qforget [17] qs_nil))
  (qs_cons (qsetLcV 10 [("order", 21)] sc_law.nd (qi_any (imCompOk _) (qvb 5).xc) (blkOk_by (N := N_law) (sc := defScope s_T_law) (by decide +kernel)) (fun _ _ _ _ _ => (qgv 21 sc_law.nd)) (fun _ _ _ _ _ => (qts_one (qtru (qcall I.are_alike hr (by rfl) T.m_are_alike T.F_are_alike.kp T.b_are_alike (qam_v (qv 13) (qam_v (qv 21) qam_nil))).b))) (fun _ _ _ _ _ => (qv 21)) (sw_true rfl rfl rfl (by decide +kernel)))
  (qs_cons (qif (qw_or (qtcmp (o_notInX (hu65 hr)) (qcall I.plain_form hr (by rfl) T.m_plain_form T.F_plain_form.kp T.b_plain_form (qam_b (qvb 13) qam_nil)).b (qvb 10)) (qw_or1 (qtcmp o_gt (qcallB c_len (by rfl) T.z_len (by decide +kernel) (qab_cons (qlc [("order", 21)] sc_law.nd (qi_any (imCompOk _) (qvb 10).xc) (blkOk_by (N := N_law) (sc := defScope s_T_law) (by decide +kernel)) (fun _ _ _ _ _ => (qgv 21 sc_law.nd)) (fun _ _ _ _ _ => (qts_one (qtcmp (o_ne (hu64 hr)) (qcall I.plain_form hr (by rfl) T.m_plain_form T.F_plain_form.kp T.b_plain_form (qam_b (qvb 21) qam_nil)).b (qcall I.plain_form hr (by rfl) T.m_plain_form T.F_plain_form.kp T.b_plain_form (qam_b (qvb 13) qam_nil)).b))) (fun _ _ _ _ _ => (qv 21))).b qab_nil)).b qint.b))).test
  (qs_one (qret qbl))
  qs_nil)
  (qforget [11, 18] (qs_cons (qfor [11] (qi_rg2 (by rfl) T.z_range (qbin o_sub qint.b qint.b).b (qbin o_add (qvb 2) qint.b).b) (qgv 11 sc_law.nd)
  (qs_cons (qset 18 sc_law.nd (qorV (qnotV (qchain o_le o_lt qint.b (qvb 11) (qbin o_sub (qvb 2) qint.b).b).b) (qe_one (qandV (qcmp (o_eq (hu64 hr)) (qix (hu1 hr) (qix (hu1 hr) (qvb 13) (qvb 11)).b qint.b).b (qstr s_all).b) (qe_one (qcmp (o_eq (hu64 hr)) (qix (hu1 hr) (qix (hu1 hr) (qvb 13) (qbin o_add (qvb 11) qint.b).b).b qint.b).b (qstr s_some).b))))))
  (qs_cons (qif (qtcmp (o_ne (hu64 hr)) (qcall I.swapped hr (by rfl) T.m_swapped T.F_swapped.kp T.b_swapped (qam_b (qvb 13) (qam_b (qvb 11) qam_nil))).b (qifE (qtru (qvb 18)) qnon (qbin o_add (qbin o_add (qsl (qvb 13) qo_none (qo_some (qvb 11))).b (qlst (qa_cons (qix (hu1 hr) (qvb 13) (qbin o_add (qvb 11) qint.b).b) (qa_cons (qix (hu1 hr) (qvb 13) (qvb 11)) qa_nil))).b).b (qsl (qvb 13) (qo_some (qbin o_add (qvb 11) qint.b).b) qo_none).b)).b)
  (qs_one (qret qbl))
  qs_nil) (qforget [11, 18] qs_nil))))
  (qforget [12, 22, 23] (qs_cons (qfor [12] (qi_rg1 (by rfl) T.z_range qint.b) (qgv 12 sc_law.nd)
  (qs_cons (qif (qtcmp (o_eq (hu64 hr)) (qix (hu1 hr) (qvb 6) qint.b).b (qstr s_swaps).b)
  (qs_cons (qset 22 sc_law.nd (qcallTF c_list (by rfl) T.z_list (by decide +kernel) (qab_cons (qix (hu1 hr) (qvb 6) qint.b).b qab_nil)).e)
  (qs_cons (qset 23 sc_law.nd (qix (hu1 hr) (qlst (qa_cons (qtup (qa_cons (qstr s_swaps) (qa_cons (qsl (qvb 22) (qo_some qint.b) qo_none) qa_nil))) (qa_cons (qtup (qa_cons (qstr s_swaps) (qa_cons (qbin o_add (qvb 22) (qlst (qa_cons (qbin o_sub (qcall I.law_take hr (by rfl) T.m_law_take T.F_law_take.kp T.b_law_take (qam_v (qv 1) (qam_v qint qam_nil))).b qint.b) qa_nil)).b) qa_nil))) (qa_cons (qtup (qa_cons (qstr s_swaps) (qa_cons (qrev (qvb 22)).e qa_nil))) (qa_cons (qtup (qa_cons (qstr s_apart) (qa_cons (qstr s_x) (qa_cons (qstr s_y) qa_nil)))) qa_nil))))).b (qcall I.law_take hr (by rfl) T.m_law_take T.F_law_take.kp T.b_law_take (qam_v (qv 1) (qam_v qint qam_nil))).b)) (qforget [22] qs_nil)))
  (qs_cons (qset 23 sc_law.nd (qix (hu1 hr) (qlst (qa_cons (qtup (qa_cons (qstr s_apart) (qa_cons (qix (hu1 hr) (qvb 6) qint.b) (qa_cons (qix (hu1 hr) (qvb 6) qint.b) qa_nil)))) (qa_cons (qtup (qa_cons (qstr s_apart) (qa_cons (qix (hu1 hr) (qvb 6) qint.b) (qa_cons (qstr s_q) qa_nil)))) (qa_cons (qtup (qa_cons (qstr s_swaps) (qa_cons (qlst qa_nil).e qa_nil))) (qa_cons (qtup (qa_cons (qstr s_swaps) (qa_cons (qlst (qa_cons (qcall I.law_take hr (by rfl) T.m_law_take T.F_law_take.kp T.b_law_take (qam_v (qv 1) (qam_v qint qam_nil))) qa_nil)).e qa_nil))) (qa_cons (qtup (qa_cons (qstr s_apart) (qa_cons (qix (hu1 hr) (qvb 3) (qneg qint.b).b) (qa_cons (qix (hu1 hr) (qvb 3) qint.b) qa_nil)))) qa_nil)))))).b (qcall I.law_take hr (by rfl) T.m_law_take T.F_law_take.kp T.b_law_take (qam_v (qv 1) (qam_v qint qam_nil))).b)) (qforget [22] qs_nil)))
  (qs_cons (qif (qtcmp (o_ne (hu64 hr)) (qcall I.entails_fault hr (by rfl) T.m_entails_fault T.F_entails_fault.kp T.b_entails_fault (qam_b (qvb 13) (qam_b (qvb 14) (qam_b (qvb 23) qam_nil)))).b (qcall I.law_fault hr (by rfl) T.m_law_fault T.F_law_fault.kp T.b_law_fault (qam_b (qvb 13) (qam_b (qvb 14) (qam_b (qvb 23) qam_nil)))).b)
  (qs_one (qret qbl))
  qs_nil) (qforget [12, 22, 23] qs_nil))))
  (qs_one (qret qbl))))))))))))))))))))))), law_run (k := 23) rfl hm h⟩)
  obtain ⟨a, ns, rfl, _⟩ := h; rfl
theorem ok_all (T : Tb K mg α) (S : SA) : ∀ n, Ok P w K mg base α S n
  | 0 => ⟨fn_zero, fn_zero, fn_zero, fn_zero, fn_zero, fn_zero, fn_zero, fn_zero, fn_zero, take_fn ((ok_law_take T).mono (by omega)), fn_zero, fn_zero, fn_zero⟩
  | n + 1 => ⟨ok_holds T (ok_all T S n), ok_holds_from T (ok_all T S n), ok_parting_pair T (ok_all T S n), ok_entails T (ok_all T S n), ok_swapped T (ok_all T S n), ok_rows_apart T (ok_all T S n), ok_entails_fault T (ok_all T S n), ok_are_alike T (ok_all T S n), ok_plain_form T (ok_all T S n), take_fn ((ok_law_take T).mono (by omega)), ok_law_orders T (ok_all T S n), ok_law_holds T (ok_all T S n), ok_law_fault T (ok_all T S n)⟩
end
/-! ### the head -/
def fn : List He.DefD := [dd "holds" s_T_holds, dd "holds_from" s_T_holds_from, dd "parting_pair" s_T_parting_pair, dd "entails" s_T_entails, dd "swapped" s_T_swapped, dd "rows_apart" s_T_rows_apart, dd "entails_fault" s_T_entails_fault, dd "are_alike" s_T_are_alike, dd "plain_form" s_T_plain_form, dd "_law_state" s_T_law_state, dd "_law_take" s_T_law_take, dd "_law_orders" s_T_law_orders, dd "_law_holds" s_T_law_holds, dd "_law_fault" s_T_law_fault, dd "law" s_T_law]
def fa : List He.Fa := [.glo "holds", .glo "holds_from", .glo "parting_pair", .glo "entails", .glo "swapped", .glo "rows_apart", .glo "entails_fault", .glo "are_alike", .glo "plain_form", .glo "_law_state", .glo "_law_take", .glo "_law_orders", .glo "_law_holds", .glo "_law_fault", .glo "law", .free "abs", .free "all", .free "any", .free "dict", .free "enumerate", .free "int", .free "len", .free "list", .free "range", .free "sorted", .free "tuple"]
abbrev R : PySem.W.OpenRow := PySem.W.OpenLaw.row PySem.Challenge.rw_wordkinds_k79_prefixes_of_all_and_some
abbrev hk : PySem.W.Hook := He.hookD 4 fa fn
def ob (s : PySem.W.SharedT) : He.AlD := He.obsDG 4 fa fn (HandSHeadRun.getT s)
theorem ob_eq (s : PySem.W.SharedT) : ob s = hk.obs s.abs := He.obsDG_eq (HandSHeadRun.getT_eq s)
abbrev loose : List PySem.Str := ["holds", "holds_from", "parting_pair", "entails", "swapped", "rows_apart", "entails_fault", "are_alike", "plain_form", "_law_state", "_law_take", "_law_orders", "_law_holds", "_law_fault"]
theorem run (w : World) : HandSHeadRun.RunEq R (PySem.W.view R.prog [16]) hk ob 4000 loose w := by
  intro os
  kernel_rfl
theorem tb_of {K : PySem.W.Frag} {h : Heap} {mg : Str → Option Value} (X : K.In h) (G : h.Ns mainGlobals mg) (c : He.SaysD fa fn K) : ∃ α, Tb K mg α := by
  obtain ⟨fd0, F0⟩ := c.def_ 0 (d := dd "holds" s_T_holds) rfl
  have U0 : L2.Fun K "holds" "holds" s_T_holds _ fd0 := fun_of F0
  obtain ⟨fd1, F1⟩ := c.def_ 1 (d := dd "holds_from" s_T_holds_from) rfl
  have U1 : L2.Fun K "holds_from" "holds_from" s_T_holds_from _ fd1 := fun_of F1
  obtain ⟨fd2, F2⟩ := c.def_ 2 (d := dd "parting_pair" s_T_parting_pair) rfl
  have U2 : L2.Fun K "parting_pair" "parting_pair" s_T_parting_pair _ fd2 := fun_of F2
  obtain ⟨fd3, F3⟩ := c.def_ 3 (d := dd "entails" s_T_entails) rfl
  have U3 : L2.Fun K "entails" "entails" s_T_entails _ fd3 := fun_of F3
  obtain ⟨fd4, F4⟩ := c.def_ 4 (d := dd "swapped" s_T_swapped) rfl
  have U4 : L2.Fun K "swapped" "swapped" s_T_swapped _ fd4 := fun_of F4
  obtain ⟨fd5, F5⟩ := c.def_ 5 (d := dd "rows_apart" s_T_rows_apart) rfl
  have U5 : L2.Fun K "rows_apart" "rows_apart" s_T_rows_apart _ fd5 := fun_of F5
  obtain ⟨fd6, F6⟩ := c.def_ 6 (d := dd "entails_fault" s_T_entails_fault) rfl
  have U6 : L2.Fun K "entails_fault" "entails_fault" s_T_entails_fault _ fd6 := fun_of F6
  obtain ⟨fd7, F7⟩ := c.def_ 7 (d := dd "are_alike" s_T_are_alike) rfl
  have U7 : L2.Fun K "are_alike" "are_alike" s_T_are_alike _ fd7 := fun_of F7
  obtain ⟨fd8, F8⟩ := c.def_ 8 (d := dd "plain_form" s_T_plain_form) rfl
  have U8 : L2.Fun K "plain_form" "plain_form" s_T_plain_form _ fd8 := fun_of F8
  obtain ⟨fd9, F9⟩ := c.def_ 9 (d := dd "_law_state" s_T_law_state) rfl
  have U9 : L2.Fun K "_law_state" "_law_state" s_T_law_state _ fd9 := fun_of F9
  obtain ⟨fd10, F10⟩ := c.def_ 10 (d := dd "_law_take" s_T_law_take) rfl
  have U10 : L2.Fun K "_law_take" "_law_take" s_T_law_take _ fd10 := fun_of F10
  obtain ⟨fd11, F11⟩ := c.def_ 11 (d := dd "_law_orders" s_T_law_orders) rfl
  have U11 : L2.Fun K "_law_orders" "_law_orders" s_T_law_orders _ fd11 := fun_of F11
  obtain ⟨fd12, F12⟩ := c.def_ 12 (d := dd "_law_holds" s_T_law_holds) rfl
  have U12 : L2.Fun K "_law_holds" "_law_holds" s_T_law_holds _ fd12 := fun_of F12
  obtain ⟨fd13, F13⟩ := c.def_ 13 (d := dd "_law_fault" s_T_law_fault) rfl
  have U13 : L2.Fun K "_law_fault" "_law_fault" s_T_law_fault _ fd13 := fun_of F13
  obtain ⟨fd14, F14⟩ := c.def_ 14 (d := dd "law" s_T_law) rfl
  have U14 : L2.Fun K "law" "law" s_T_law _ fd14 := fun_of F14
  exact ⟨⟨_, fd0, _, fd1, _, fd2, _, fd3, _, fd4, _, fd5, _, fd6, _, fd7, _, fd8, _, fd9, _, fd10, _, fd11, _, fd12, _, fd13, _, fd14⟩, {
    F_holds := U0,
    b_holds := U0.binds (ps := ["prefix", "names", "size", "rows"]) fun _ _ _ _ _ _ us hl => match us, hl with | [_, _, _, _], _ => rfl,
    m_holds := He.glo_ok X G (c.fact 0 (f := .glo "holds") rfl),
    F_holds_from := U1,
    b_holds_from := U1.binds (ps := ["prefix", "names", "size", "rows", "values"]) fun _ _ _ _ _ _ us hl => match us, hl with | [_, _, _, _, _], _ => rfl,
    m_holds_from := He.glo_ok X G (c.fact 1 (f := .glo "holds_from") rfl),
    F_parting_pair := U2,
    b_parting_pair := U2.binds (ps := ["one", "other"]) fun _ _ _ _ _ _ us hl => match us, hl with | [_, _], _ => rfl,
    m_parting_pair := He.glo_ok X G (c.fact 2 (f := .glo "parting_pair") rfl),
    F_entails := U3,
    b_entails := U3.binds (ps := ["one", "other"]) fun _ _ _ _ _ _ us hl => match us, hl with | [_, _], _ => rfl,
    m_entails := He.glo_ok X G (c.fact 3 (f := .glo "entails") rfl),
    F_swapped := U4,
    b_swapped := U4.binds (ps := ["prefix", "place"]) fun _ _ _ _ _ _ us hl => match us, hl with | [_, _], _ => rfl,
    m_swapped := He.glo_ok X G (c.fact 4 (f := .glo "swapped") rfl),
    F_rows_apart := U5,
    b_rows_apart := U5.binds (ps := ["names", "pair"]) fun _ _ _ _ _ _ us hl => match us, hl with | [_, _], _ => rfl,
    m_rows_apart := He.glo_ok X G (c.fact 5 (f := .glo "rows_apart") rfl),
    F_entails_fault := U6,
    b_entails_fault := U6.binds (ps := ["one", "other", "told"]) fun _ _ _ _ _ _ us hl => match us, hl with | [_, _, _], _ => rfl,
    m_entails_fault := He.glo_ok X G (c.fact 6 (f := .glo "entails_fault") rfl),
    F_are_alike := U7,
    b_are_alike := U7.binds (ps := ["one", "other"]) fun _ _ _ _ _ _ us hl => match us, hl with | [_, _], _ => rfl,
    m_are_alike := He.glo_ok X G (c.fact 7 (f := .glo "are_alike") rfl),
    F_plain_form := U8,
    b_plain_form := U8.binds (ps := ["prefix"]) fun _ _ _ _ _ _ us hl => match us, hl with | [_], _ => rfl,
    m_plain_form := He.glo_ok X G (c.fact 8 (f := .glo "plain_form") rfl),
    F_law_state := U9,
    b_law_state := U9.binds (ps := ["script"]) fun _ _ _ _ _ _ us hl => match us, hl with | [_], _ => rfl,
    m_law_state := He.glo_ok X G (c.fact 9 (f := .glo "_law_state") rfl),
    F_law_take := U10,
    b_law_take := U10.binds (ps := ["state", "most"]) fun _ _ _ _ _ _ us hl => match us, hl with | [_, _], _ => rfl,
    m_law_take := He.glo_ok X G (c.fact 10 (f := .glo "_law_take") rfl),
    F_law_orders := U11,
    b_law_orders := U11.binds (ps := ["left"]) fun _ _ _ _ _ _ us hl => match us, hl with | [_], _ => rfl,
    m_law_orders := He.glo_ok X G (c.fact 11 (f := .glo "_law_orders") rfl),
    F_law_holds := U12,
    b_law_holds := U12.binds (ps := ["prefix", "names", "size", "rows", "values"]) fun _ _ _ _ _ _ us hl => match us, hl with | [_, _, _, _, _], _ => rfl,
    m_law_holds := He.glo_ok X G (c.fact 12 (f := .glo "_law_holds") rfl),
    F_law_fault := U13,
    b_law_fault := U13.binds (ps := ["one", "other", "told"]) fun _ _ _ _ _ _ us hl => match us, hl with | [_, _, _], _ => rfl,
    m_law_fault := He.glo_ok X G (c.fact 13 (f := .glo "_law_fault") rfl),
    F_law := U14,
    b_law := U14.binds (ps := ["script"]) fun _ _ _ _ _ _ us hl => match us, hl with | [_], _ => rfl,
    m_law := He.glo_ok X G (c.fact 14 (f := .glo "law") rfl),
    z_abs := He.free_ok X G (c.fact 15 (f := .free "abs") rfl),
    z_all := He.free_ok X G (c.fact 16 (f := .free "all") rfl),
    z_any := He.free_ok X G (c.fact 17 (f := .free "any") rfl),
    z_dict := He.free_ok X G (c.fact 18 (f := .free "dict") rfl),
    z_enumerate := He.free_ok X G (c.fact 19 (f := .free "enumerate") rfl),
    z_int := He.free_ok X G (c.fact 20 (f := .free "int") rfl),
    z_len := He.free_ok X G (c.fact 21 (f := .free "len") rfl),
    z_list := He.free_ok X G (c.fact 22 (f := .free "list") rfl),
    z_range := He.free_ok X G (c.fact 23 (f := .free "range") rfl),
    z_sorted := He.free_ok X G (c.fact 24 (f := .free "sorted") rfl),
    z_tuple := He.free_ok X G (c.fact 25 (f := .free "tuple") rfl) }⟩
theorem facts {P : Program} {w : World} {K : PySem.W.Frag} {h : Heap} {mg : Str → Option Value} {f : Addr} (X : K.In h) (G : h.Ns mainGlobals mg) (hfa : mg ("law" : Str) = some (.ref f)) (c : He.SaysD fa fn K) (hm : (b_law 40 (none :: some (.val .stt) :: List.replicate 23 none)).wp fun r => r.1 = .rt (.bl true)) :
    ∃ fd : FuncData, (∀ (s : Shared) (v : Value), BindsTo s fd ⟨[v], []⟩ [("script", v)]) ∧ ∀ base : Heap, K.In base → base.Ns mainGlobals mg → FnOk P w K mg base CX0 42 f fd ["script"] (spLawD K) := by
  obtain ⟨fd, F⟩ := c.def_ 14 (d := dd "law" s_T_law) rfl
  have e := hfa.symm.trans (He.glo_ok X G (c.fact 14 (f := .glo "law") rfl))
  cases e
  obtain ⟨α, T⟩ := tb_of X G c
  have b := FunD.bindsA (ps := ["script"]) F fun _ _ _ _ _ _ us hl => match us, hl with | [_], _ => rfl
  have e2 := (He.glo_ok X G (c.fact 14 (f := .glo "law") rfl)).symm.trans T.m_law
  refine ⟨fd, fun s v => b s [v] rfl, fun base _ _ => ?_⟩
  have q := ok_law T (P := P) (w := w) (base := base) (fun S => ok_all T S 40) hm
  have e3 := Value.ref.inj (Option.some.inj e2)
  have e4 : α.d_law = fd := by
    obtain ⟨_, _, _, _, _, _, _, _, _, _, l1, _⟩ := T.F_law.ex
    obtain ⟨_, _, _, _, _, _, _, _, _, _, _, l2, _⟩ := F.ex
    rw [← e3] at l1
    have l3 := l1.symm.trans l2
    simp only [Option.some.injEq, Obj.mk.injEq, Data.func.injEq] at l3
    exact l3.2.2.1
  rw [← e3, e4] at q
  exact q
end K79

set_option Elab.async false
set_option linter.all false
set_option maxRecDepth 100000
set_option maxHeartbeats 0
namespace K79
open PySem PySem.Spec L2 DL
def t_parting_pair (one_ : (List (Str × Str))) (other_ : (List (Str × Str))) : M (Option (Str × Str)) := ((loopR (fun x1 s2 => (((rgM (x1.1 + (1 : Int)) ((one_.length : Nat) : Int)) >>= fun v17 => loopR (fun x3 s4 => ((if (decide (x1.2.1 = s_all)) then ((((ixM one_ x3) >>= fun v5 => .ret v5.1) >>= fun v7 => .ret (decide (v7 = s_some))) >>= fun kb => if kb then (((ixM one_ x3) >>= fun v9 => indexM other_ v9) >>= fun v11 => ((ixM one_ x1.1) >>= fun v10 => indexM other_ v10) >>= fun v12 => .ret (decide (v11 < v12))) else .ret false) else .ret false) >>= fun kb => if kb then ((((ixM one_ x3) >>= fun v13 => .ret v13.2) >>= fun v15 => .ret (x1.2.2, v15)) >>= fun v16 => .ret (some v16)) >>= fun r => .ret (.back r) else .ret (.go ()))) v17 ()) : M (Fw Unit (Option (Str × Str)))) >>= contR (fun s18 => .ret (.go ())) (fun r => (Fw.back r))) (enumT 0 one_) ()) : M (Fw Unit (Option (Str × Str)))) >>= contR (fun s20 => .ret (none : (Option (Str × Str)))) (fun r => r)
theorem rf_parting_pair (k : Nat) (one_ : (List (Str × Str))) (other_ : (List (Str × Str))) : Ev (eO (eT2 eS eS)) (f_parting_pair (k + 1) [(eL (eT2 eS eS)) one_, (eL (eT2 eS eS)) other_]) (t_parting_pair one_ other_) := by
  show Ev (eO (eT2 eS eS)) (fnM 6 [false, true] (b_parting_pair (k + 0)) [(eL (eT2 eS eS)) one_, (eL (eT2 eS eS)) other_]) _
  exact rf_fn
    (s_forget (s_nextR (E := (fun (s : Unit) => [some (.val ((eL (eT2 eS eS)) one_)), some (.bor ((eL (eT2 eS eS)) other_)), none, none, none, none])) (eρ := (eO (eT2 eS eS))) (f := fun r => r) (fun _ _ => Or.inl rfl) (l_for (e := (eT2 eI (eT2 eS eS))) (i_enum (rfl : _ = M.ret ((eL (eT2 eS eS)) one_))) (rf_loopR (e := (eT2 eI (eT2 eS eS))) (E := (fun (s : Unit) => [some (.val ((eL (eT2 eS eS)) one_)), some (.bor ((eL (eT2 eS eS)) other_)), none, none, none, none])) (eρ := (eO (eT2 eS eS))) (fun _ _ => rfl) (fun x1 s2 => (s_forget (s_nextR (E := (fun (s : Unit) => [some (.val ((eL (eT2 eS eS)) one_)), some (.bor ((eL (eT2 eS eS)) other_)), some (.val (eI x1.1)), none, some (.val (eS x1.2.1)), some (.val (eS x1.2.2))])) (eρ := (eO (eT2 eS eS))) (f := fun r => (Fw.back r)) (fun _ _ => rfl) (l_forE (e := eI) (i_rg2 (p_bin (rfl : _ = M.ret (eI x1.1)) (rfl : _ = M.ret (eI (1 : Int))) rfl) (p_call (p_cons (rfl : _ = M.ret ((eL (eT2 eS eS)) one_)) p_nil) (o_lenL _))) (fun v17 => (rf_loopR (e := eI) (E := (fun (s : Unit) => [some (.val ((eL (eT2 eS eS)) one_)), some (.bor ((eL (eT2 eS eS)) other_)), some (.val (eI x1.1)), none, some (.val (eS x1.2.1)), some (.val (eS x1.2.2))])) (eρ := (eO (eT2 eS eS))) (fun _ _ => rfl) (fun x3 s4 => (s_iff (r_andP (p_binT (rfl : _ = M.ret (eS x1.2.1)) (rfl : _ = M.ret (eS s_all)) (o_eqE cS (by decide) _ _)) (r_and (t_E (b_EP (b_EP (b_PP (rfl : _ = M.ret ((eL (eT2 eS eS)) one_)) (rfl : _ = M.ret (eI x3)) (r_ix _ _)) (rfl : _ = M.ret (eI (0 : Int))) (fun v5 => (ev_ret (e := eS) rfl))) (rfl : _ = M.ret (eS s_some)) (fun v7 => (ev_ret (e := eB) (o_eqE cS (by decide) _ _))))) (t_E (b_EE (r_indexE (cT2 cS cS) (by decide) (rfl : _ = M.ret ((eL (eT2 eS eS)) other_)) (b_PP (rfl : _ = M.ret ((eL (eT2 eS eS)) one_)) (rfl : _ = M.ret (eI x3)) (r_ix _ _))) (r_indexE (cT2 cS cS) (by decide) (rfl : _ = M.ret ((eL (eT2 eS eS)) other_)) (b_PP (rfl : _ = M.ret ((eL (eT2 eS eS)) one_)) (rfl : _ = M.ret (eI x1.1)) (r_ix _ _))) (fun v11 v12 => (ev_ret (e := eB) rfl)))))) (s_retE (f := Fw.back) (fun _ _ => ⟨(fun z => nomatch z), rfl⟩) (ev_some (r_tup (a_consP (d := eS x1.2.2) (rfl : _ = M.ret (eS x1.2.2)) (a_cons (b_EP (b_PP (rfl : _ = M.ret ((eL (eT2 eS eS)) one_)) (rfl : _ = M.ret (eI x3)) (r_ix _ _)) (rfl : _ = M.ret (eI (1 : Int))) (fun v13 => (ev_ret (e := eS) rfl))) (fun v15 => (a_nil (k_disp (R := Re (eT2 eS eS)) (r := ((x1.2.2, v15) : (Str × Str))) (p_len (n := 2) (by decide)) rfl)))))))) (s_skip (e_goT rfl)))) v17 ()))) (fun s18 => (e_goT rfl))))) (enumT 0 one_) ())) (fun s20 => (s_retP (r := (none : (Option (Str × Str)))) (x := (none : (Option (Str × Str)))) (fun _ => Or.inl rfl) (rfl : _ = M.ret (eN ()))))))
end K79

set_option Elab.async false
set_option linter.all false
set_option maxRecDepth 100000
set_option maxHeartbeats 0
namespace K79
open PySem PySem.Spec L2 DL
def t_swapped (prefix_ : (List (Str × Str))) (place_ : Int) : M (Option (List (Str × Str))) := ((if (!((decide ((0 : Int) ≤ place_)) && (decide (place_ < (((prefix_.length : Nat) : Int) - (1 : Int)))))) then .ret true else ((((ixM prefix_ place_) >>= fun v1 => .ret v1.1) >>= fun v3 => .ret (decide (v3 = s_all))) >>= fun kb => if kb then (((ixM prefix_ (place_ + (1 : Int))) >>= fun v5 => .ret v5.1) >>= fun v7 => .ret (decide (v7 = s_some))) else .ret false)) >>= fun kb => if kb then .ret (none : (Option (List (Str × Str)))) else (((((ixM prefix_ (place_ + (1 : Int))) >>= fun v9 => (ixM prefix_ place_) >>= fun v10 => .ret [v9, v10]) >>= fun v12 => (catM (cutD prefix_ none (some place_)) v12)) >>= fun v13 => (catM v13 (cutD prefix_ (some (place_ + (2 : Int))) none))) >>= fun v15 => .ret (some v15)))
theorem rf_swapped (k : Nat) (prefix_ : (List (Str × Str))) (place_ : Int) : Ev (eO (eL (eT2 eS eS))) (f_swapped (k + 1) [(eL (eT2 eS eS)) prefix_, eI place_]) (t_swapped prefix_ place_) := by
  show Ev (eO (eL (eT2 eS eS))) (fnM 2 [true, true] (b_swapped (k + 0)) [(eL (eT2 eS eS)) prefix_, eI place_]) _
  exact rf_fn
    (s_iff (r_orP (p_not (p_TE (p_chain (rfl : _ = M.ret (eI (0 : Int))) (rfl : _ = M.ret (eI place_)) (p_bin (p_call (p_cons (rfl : _ = M.ret ((eL (eT2 eS eS)) prefix_)) p_nil) (o_lenL _)) (rfl : _ = M.ret (eI (1 : Int))) rfl) rfl rfl))) (r_and (t_E (b_EP (b_EP (b_PP (rfl : _ = M.ret ((eL (eT2 eS eS)) prefix_)) (rfl : _ = M.ret (eI place_)) (r_ix _ _)) (rfl : _ = M.ret (eI (0 : Int))) (fun v1 => (ev_ret (e := eS) rfl))) (rfl : _ = M.ret (eS s_all)) (fun v3 => (ev_ret (e := eB) (o_eqE cS (by decide) _ _))))) (t_E (b_EP (b_EP (b_PP (rfl : _ = M.ret ((eL (eT2 eS eS)) prefix_)) (p_bin (rfl : _ = M.ret (eI place_)) (rfl : _ = M.ret (eI (1 : Int))) rfl) (r_ix _ _)) (rfl : _ = M.ret (eI (0 : Int))) (fun v5 => (ev_ret (e := eS) rfl))) (rfl : _ = M.ret (eS s_some)) (fun v7 => (ev_ret (e := eB) (o_eqE cS (by decide) _ _))))))) (s_retP (r := (none : (Option (List (Str × Str))))) (x := (none : (Option (List (Str × Str))))) (fun _ => ⟨(fun z => nomatch z), Or.inl rfl⟩) (rfl : _ = M.ret (eN ()))) (s_skip (s_retF (fun _ _ => Or.inl rfl) (ev_some (b_EP (b_PE (p_sl (rfl : _ = M.ret ((eL (eT2 eS eS)) prefix_)) po_n (po_s (rfl : _ = M.ret (eI place_))) (o_slL _ _ _)) (r_lst (a_cons (b_PP (rfl : _ = M.ret ((eL (eT2 eS eS)) prefix_)) (p_bin (rfl : _ = M.ret (eI place_)) (rfl : _ = M.ret (eI (1 : Int))) rfl) (r_ix _ _)) (fun v9 => (a_cons (b_PP (rfl : _ = M.ret ((eL (eT2 eS eS)) prefix_)) (rfl : _ = M.ret (eI place_)) (r_ix _ _)) (fun v10 => (a_nil (k_disp (R := Re (eL (eT2 eS eS))) (r := ([v9, v10] : (List (Str × Str)))) (p_len (n := 2) (by decide)) rfl))))))) (fun v12 => (r_cat _ _))) (p_sl (rfl : _ = M.ret ((eL (eT2 eS eS)) prefix_)) (po_s (p_bin (rfl : _ = M.ret (eI place_)) (rfl : _ = M.ret (eI (2 : Int))) rfl)) po_n (o_slL _ _ _)) (fun v13 => (r_cat _ _)))))))
end K79

set_option Elab.async false
set_option linter.all false
set_option maxRecDepth 100000
set_option maxHeartbeats 0
namespace K79
open PySem PySem.Spec L2 DL
def t_are_alike (one_ : (List (Str × Str))) (other_ : (List (Str × Str))) : M Bool := ((((t_parting_pair one_ other_)) >>= fun v1 => .ret v1.isNone) >>= fun kb => if kb then (((t_parting_pair other_ one_)) >>= fun v3 => .ret v3.isNone) else .ret false)
theorem rf_are_alike (k : Nat) (one_ : (List (Str × Str))) (other_ : (List (Str × Str))) : Ev eB (f_are_alike (k + 2) [(eL (eT2 eS eS)) one_, (eL (eT2 eS eS)) other_]) (t_are_alike one_ other_) := by
  show Ev eB (fnM 2 [false, false] (b_are_alike (k + 1)) [(eL (eT2 eS eS)) one_, (eL (eT2 eS eS)) other_]) _
  exact rf_fn
    (s_retF (fun _ _ => Or.inl rfl) (r_andV (b_EP (c_call (a_consP (d := (eL (eT2 eS eS)) one_) (rfl : _ = M.ret ((eL (eT2 eS eS)) one_)) (a_consP (d := (eL (eT2 eS eS)) other_) (rfl : _ = M.ret ((eL (eT2 eS eS)) other_)) (a_nil (rf_parting_pair _ _ _))))) (rfl : _ = M.ret (eN ())) (fun v1 => (ev_ret (e := eB) (o_isO nnT2 _)))) (b_EP (c_call (a_consP (d := (eL (eT2 eS eS)) other_) (rfl : _ = M.ret ((eL (eT2 eS eS)) other_)) (a_consP (d := (eL (eT2 eS eS)) one_) (rfl : _ = M.ret ((eL (eT2 eS eS)) one_)) (a_nil (rf_parting_pair _ _ _))))) (rfl : _ = M.ret (eN ())) (fun v3 => (ev_ret (e := eB) (o_isO nnT2 _))))))
end K79

set_option Elab.async false
set_option linter.all false
set_option maxRecDepth 100000
set_option maxHeartbeats 0
namespace K79
open PySem PySem.Spec L2 DL
def t_entails (one_ : (List (Str × Str))) (other_ : (List (Str × Str))) : M D := ((t_parting_pair one_ other_)) >>= fun pair_v1 => (if (!pair_v1.isNone) then (dAdd ((eT1 eS) s_apart) ((eO (eT2 eS eS)) pair_v1)) else (M.ret ([] : (List Int))) >>= fun places_v2 => ((whileM (fun s3 => (M.ret s3.2.2)) (fun s3 => (((rgM 0 (((s3.1.length : Nat) : Int) - (1 : Int))) >>= fun v19 => loopM (fun x4 s5 => (((((ixM s5.1 x4) >>= fun v6 => indexM other_ v6) >>= fun v8 => ((ixM s5.1 (x4 + (1 : Int))) >>= fun v7 => indexM other_ v7) >>= fun v9 => .ret (decide (v9 < v8))) >>= fun kb => if kb then ((((ixM s5.1 (x4 + (1 : Int))) >>= fun v10 => (ixM s5.1 x4) >>= fun v11 => .ret [v10, v11]) >>= fun v13 => (catM (cutD s5.1 none (some x4)) v13)) >>= fun v14 => (catM v14 (cutD s5.1 (some (x4 + (2 : Int))) none))) >>= fun row_v16 => appM s5.2.1 x4 >>= fun places_v17 => .ret (row_v16, places_v17, true) else .ret (s5.1, s5.2.1, s5.2.2)) : M ((List (Str × Str)) × (List Int) × Bool)) >>= fun s18 => .ret (s18.1, s18.2.1, s18.2.2)) v19 (s3.1, s3.2.1, false)) : M ((List (Str × Str)) × (List Int) × Bool)) >>= fun s20 => .ret (s20.1, s20.2.1, s20.2.2)) 100 (one_, places_v2, true)) : M ((List (Str × Str)) × (List Int) × Bool)) >>= fun s21 => .ret ((eT2 eS (eL eI)) (s_swaps, s21.2.1)))
theorem rf_entails (k : Nat) (one_ : (List (Str × Str))) (other_ : (List (Str × Str))) : Ev eD (f_entails (k + 2) [(eL (eT2 eS eS)) one_, (eL (eT2 eS eS)) other_]) (t_entails one_ other_) := by
  show Ev eD (fnM 7 [false, true] (b_entails (k + 1)) [(eL (eT2 eS eS)) one_, (eL (eT2 eS eS)) other_]) _
  exact rf_fn
    (s_setE (e := (eO (eT2 eS eS))) (c_call (a_consP (d := (eL (eT2 eS eS)) one_) (rfl : _ = M.ret ((eL (eT2 eS eS)) one_)) (a_consP (d := (eL (eT2 eS eS)) other_) (rfl : _ = M.ret ((eL (eT2 eS eS)) other_)) (a_nil (rf_parting_pair _ _ _))))) (fun pair_v1 => (s_iffP (p_binT (rfl : _ = M.ret ((eO (eT2 eS eS)) pair_v1)) (rfl : _ = M.ret (eN ())) (o_isNotO nnT2 _)) (s_retF (fun _ _ => ⟨(fun z => nomatch z), Or.inl rfl⟩) (b_PP (p_tup (ds := [eS s_apart]) (p_cons (rfl : _ = M.ret (eS s_apart)) p_nil) (p_len (n := 1) (by decide))) (rfl : _ = M.ret ((eO (eT2 eS eS)) pair_v1)) (ev_id _))) (s_skip (s_setP (p_call (p_cons (rfl : _ = M.ret ((eL (eT2 eS eS)) one_)) p_nil) rfl) (s_setOE (e := (eL eI)) (ev_ret (e := (eL eI)) (p_lstE (e := eI) (xs := ([] : List Int)) p_nil (p_len (n := 0) (by decide)))) (fun places_v2 => (s_setP (rfl : _ = M.ret (eB true)) (s_forget (s_next (E := (fun (s : ((List (Str × Str)) × (List Int) × Bool)) => [some (.val ((eL (eT2 eS eS)) one_)), some (.bor ((eL (eT2 eS eS)) other_)), some (.val ((eO (eT2 eS eS)) pair_v1)), some (.val ((eL (eT2 eS eS)) s.1)), some (.own ((eL eI) s.2.1)), some (.val (eB s.2.2)), none])) (rf_whileM (E := (fun (s : ((List (Str × Str)) × (List Int) × Bool)) => [some (.val ((eL (eT2 eS eS)) one_)), some (.bor ((eL (eT2 eS eS)) other_)), some (.val ((eO (eT2 eS eS)) pair_v1)), some (.val ((eL (eT2 eS eS)) s.1)), some (.own ((eL eI) s.2.1)), some (.val (eB s.2.2)), none])) (fun s3 => (et_ret (p_tru (rfl : _ = M.ret (eB s3.2.2)) rfl))) (fun s3 => (s_setP (rfl : _ = M.ret (eB false)) (s_forget (s_next (E := (fun (s : ((List (Str × Str)) × (List Int) × Bool)) => [some (.val ((eL (eT2 eS eS)) one_)), some (.bor ((eL (eT2 eS eS)) other_)), some (.val ((eO (eT2 eS eS)) pair_v1)), some (.val ((eL (eT2 eS eS)) s.1)), some (.own ((eL eI) s.2.1)), some (.val (eB s.2.2)), none])) (l_forE (e := eI) (i_rg1 (p_bin (p_call (p_cons (rfl : _ = M.ret ((eL (eT2 eS eS)) s3.1)) p_nil) (o_lenL _)) (rfl : _ = M.ret (eI (1 : Int))) rfl)) (fun v19 => (rf_loopM (e := eI) (E := (fun (s : ((List (Str × Str)) × (List Int) × Bool)) => [some (.val ((eL (eT2 eS eS)) one_)), some (.bor ((eL (eT2 eS eS)) other_)), some (.val ((eO (eT2 eS eS)) pair_v1)), some (.val ((eL (eT2 eS eS)) s.1)), some (.own ((eL eI) s.2.1)), some (.val (eB s.2.2)), none])) (fun _ _ => rfl) (fun x4 s5 => (s_next (E := (fun (s : ((List (Str × Str)) × (List Int) × Bool)) => [some (.val ((eL (eT2 eS eS)) one_)), some (.bor ((eL (eT2 eS eS)) other_)), some (.val ((eO (eT2 eS eS)) pair_v1)), some (.val ((eL (eT2 eS eS)) s.1)), some (.own ((eL eI) s.2.1)), some (.val (eB s.2.2)), some (.val (eI x4))])) (s_if (t_E (b_EE (r_indexE (cT2 cS cS) (by decide) (rfl : _ = M.ret ((eL (eT2 eS eS)) other_)) (b_PP (rfl : _ = M.ret ((eL (eT2 eS eS)) s5.1)) (rfl : _ = M.ret (eI x4)) (r_ix _ _))) (r_indexE (cT2 cS cS) (by decide) (rfl : _ = M.ret ((eL (eT2 eS eS)) other_)) (b_PP (rfl : _ = M.ret ((eL (eT2 eS eS)) s5.1)) (p_bin (rfl : _ = M.ret (eI x4)) (rfl : _ = M.ret (eI (1 : Int))) rfl) (r_ix _ _))) (fun v8 v9 => (ev_ret (e := eB) rfl)))) (s_setE (e := (eL (eT2 eS eS))) (b_EP (b_PE (p_sl (rfl : _ = M.ret ((eL (eT2 eS eS)) s5.1)) po_n (po_s (rfl : _ = M.ret (eI x4))) (o_slL _ _ _)) (r_lst (a_cons (b_PP (rfl : _ = M.ret ((eL (eT2 eS eS)) s5.1)) (p_bin (rfl : _ = M.ret (eI x4)) (rfl : _ = M.ret (eI (1 : Int))) rfl) (r_ix _ _)) (fun v10 => (a_cons (b_PP (rfl : _ = M.ret ((eL (eT2 eS eS)) s5.1)) (rfl : _ = M.ret (eI x4)) (r_ix _ _)) (fun v11 => (a_nil (k_disp (R := Re (eL (eT2 eS eS))) (r := ([v10, v11] : (List (Str × Str)))) (p_len (n := 2) (by decide)) rfl))))))) (fun v13 => (r_cat _ _))) (p_sl (rfl : _ = M.ret ((eL (eT2 eS eS)) s5.1)) (po_s (p_bin (rfl : _ = M.ret (eI x4)) (rfl : _ = M.ret (eI (2 : Int))) rfl)) po_n (o_slL _ _ _)) (fun v14 => (r_cat _ _))) (fun row_v16 => (s_appP (rfl : _ = M.ret (eI x4)) rfl (fun places_v17 => (s_setP (rfl : _ = M.ret (eB true)) (e_goN rfl)))))) (e_goN rfl)) (fun s18 => (e_goX rfl)))) v19 (s3.1, s3.2.1, false)))) (fun s20 => (e_goX rfl)))))) 100 (one_, places_v2, true)) (fun s21 => (s_frz rfl (s_retP (r := ((eT2 eS (eL eI)) (s_swaps, s21.2.1))) (x := ((eT2 eS (eL eI)) (s_swaps, s21.2.1))) (fun _ => Or.inl rfl) (p_tup (ds := [eS s_swaps, (eL eI) s21.2.1]) (p_cons (rfl : _ = M.ret (eS s_swaps)) (p_cons (rfl : _ = M.ret ((eL eI) s21.2.1)) p_nil)) (p_len (n := 2) (by decide))))))))))))))))
end K79

set_option Elab.async false
set_option linter.all false
set_option maxRecDepth 100000
set_option maxHeartbeats 0
namespace K79
open PySem PySem.Spec L2 DL
def t_plain_form (prefix_ : (List (Str × Str))) : M (List (Str × Str)) := (M.ret ([] : (List (Str × Str)))) >>= fun found_v1 => ((whileM (fun s2 => (M.ret (decide (s2.2 < ((prefix_.length : Nat) : Int))))) (fun s2 => ((whileM (fun s3 => (if (decide (s3 < ((prefix_.length : Nat) : Int))) then (((ixM prefix_ s3) >>= fun v4 => .ret v4.1) >>= fun v8 => ((ixM prefix_ s2.2) >>= fun v6 => .ret v6.1) >>= fun v9 => .ret (decide (v8 = v9))) else .ret false)) (fun s3 => (M.ret (s3 + (1 : Int))) >>= fun end_v10 => .ret end_v10) 100 s2.2) : M Int) >>= fun s11 => (((sortM (ltP2 ltS ltS) (cutD prefix_ (some s2.2) (some s11)))) >>= fun v13 => (catM s2.1 v13)) >>= fun found_v14 => .ret (found_v14, s11)) 100 (found_v1, (0 : Int))) : M ((List (Str × Str)) × Int)) >>= fun s15 => .ret s15.1
theorem rf_plain_form (k : Nat) (prefix_ : (List (Str × Str))) : Ev (eL (eT2 eS eS)) (f_plain_form (k + 1) [(eL (eT2 eS eS)) prefix_]) (t_plain_form prefix_) := by
  show Ev (eL (eT2 eS eS)) (fnM 4 [true] (b_plain_form (k + 0)) [(eL (eT2 eS eS)) prefix_]) _
  exact rf_fn
    (s_setE (e := (eL (eT2 eS eS))) (ev_ret (e := (eL (eT2 eS eS))) (p_lstE (e := (eT2 eS eS)) (xs := ([] : List (Str × Str))) p_nil (p_len (n := 0) (by decide)))) (fun found_v1 => (s_setP (rfl : _ = M.ret (eI (0 : Int))) (s_forget (s_next (E := (fun (s : ((List (Str × Str)) × Int)) => [some (.bor ((eL (eT2 eS eS)) prefix_)), some (.val ((eL (eT2 eS eS)) s.1)), some (.val (eI s.2)), none])) (rf_whileM (E := (fun (s : ((List (Str × Str)) × Int)) => [some (.bor ((eL (eT2 eS eS)) prefix_)), some (.val ((eL (eT2 eS eS)) s.1)), some (.val (eI s.2)), none])) (fun s2 => (et_ret (p_binT (rfl : _ = M.ret (eI s2.2)) (p_call (p_cons (rfl : _ = M.ret ((eL (eT2 eS eS)) prefix_)) p_nil) (o_lenL _)) rfl))) (fun s2 => (s_setP (rfl : _ = M.ret (eI s2.2)) (s_next (E := (fun (s : Int) => [some (.bor ((eL (eT2 eS eS)) prefix_)), some (.val ((eL (eT2 eS eS)) s2.1)), some (.val (eI s2.2)), some (.val (eI s))])) (rf_whileM (E := (fun (s : Int) => [some (.bor ((eL (eT2 eS eS)) prefix_)), some (.val ((eL (eT2 eS eS)) s2.1)), some (.val (eI s2.2)), some (.val (eI s))])) (fun s3 => (r_andP (p_binT (rfl : _ = M.ret (eI s3)) (p_call (p_cons (rfl : _ = M.ret ((eL (eT2 eS eS)) prefix_)) p_nil) (o_lenL _)) rfl) (t_E (b_EE (b_EP (b_PP (rfl : _ = M.ret ((eL (eT2 eS eS)) prefix_)) (rfl : _ = M.ret (eI s3)) (r_ix _ _)) (rfl : _ = M.ret (eI (0 : Int))) (fun v4 => (ev_ret (e := eS) rfl))) (b_EP (b_PP (rfl : _ = M.ret ((eL (eT2 eS eS)) prefix_)) (rfl : _ = M.ret (eI s2.2)) (r_ix _ _)) (rfl : _ = M.ret (eI (0 : Int))) (fun v6 => (ev_ret (e := eS) rfl))) (fun v8 v9 => (ev_ret (e := eB) (o_eqE cS (by decide) _ _))))))) (fun s3 => (s_setE (e := eI) (ev_ret (e := eI) (p_bin (rfl : _ = M.ret (eI s3)) (rfl : _ = M.ret (eI (1 : Int))) rfl)) (fun end_v10 => (e_goX rfl)))) 100 s2.2) (fun s11 => (s_setE (e := (eL (eT2 eS eS))) (b_PE (rfl : _ = M.ret ((eL (eT2 eS eS)) s2.1)) (c_call (a_consP (d := (eL (eT2 eS eS)) (cutD prefix_ (some s2.2) (some s11))) (p_sl (rfl : _ = M.ret ((eL (eT2 eS eS)) prefix_)) (po_s (rfl : _ = M.ret (eI s2.2))) (po_s (rfl : _ = M.ret (eI s11))) (o_slL _ _ _)) (a_nil (r_sorted (qT2 cS qS cS qS) _)))) (fun v13 => (r_cat _ _))) (fun found_v14 => (s_setP (rfl : _ = M.ret (eI s11)) (e_goX rfl)))))))) 100 (found_v1, (0 : Int))) (fun s15 => (s_retP (r := s15.1) (x := s15.1) (fun _ => Or.inl rfl) (rfl : _ = M.ret ((eL (eT2 eS eS)) s15.1)))))))))
end K79

set_option Elab.async false
set_option linter.all false
set_option maxRecDepth 100000
set_option maxHeartbeats 0
namespace K79
open PySem PySem.Spec L2 DL
def t_law_orders : Nat → (List (Str × Str)) → M (List (List (Str × Str)))
  | 0, _ => .fail
  | k + 1, left_ => (if (decide (((left_.length : Nat) : Int) = (0 : Int))) then .ret [([] : (List (Str × Str)))] else (M.ret ([] : (List (List (Str × Str))))) >>= fun found_v1 => ((loopM (fun x2 s3 => (((t_law_orders k ((left_.filter (fun x4 => (!decide (x4 = x2)))).map (fun x4 => x4)))) >>= fun v6 => (lcM (fun x5 => (M.ret true)) (fun x5 => (catM [x2] x5))) v6) >>= fun v8 => catM s3 v8 >>= fun found_v7 => .ret found_v7) left_ found_v1) : M (List (List (Str × Str)))) >>= fun s10 => .ret s10)
theorem rf_law_orders : ∀ (k : Nat) (left_ : (List (Str × Str))), Ev (eL (eL (eT2 eS eS))) (f_law_orders (k + 0) [(eL (eT2 eS eS)) left_]) (t_law_orders k left_)
  | 0, _ => Rf.fail
  | k + 1, left_ => by
    show Ev (eL (eL (eT2 eS eS))) (f_law_orders (k + 0 + 1) [(eL (eT2 eS eS)) left_]) _
    show Ev (eL (eL (eT2 eS eS))) (fnM 5 [false] (b_law_orders (f_law_orders (k + 0)) (k + 0)) [(eL (eT2 eS eS)) left_]) _
    exact rf_fn
      (s_iffP (p_binT (p_call (p_cons (rfl : _ = M.ret ((eL (eT2 eS eS)) left_)) p_nil) (o_lenL _)) (rfl : _ = M.ret (eI (0 : Int))) (o_eqE cI (by decide) _ _)) (s_retP (r := [([] : (List (Str × Str)))]) (x := [([] : (List (Str × Str)))]) (fun _ => ⟨(fun z => nomatch z), Or.inl rfl⟩) (p_lstE (e := (eL (eT2 eS eS))) (xs := [([] : (List (Str × Str)))]) (p_cons (p_lstE (e := (eT2 eS eS)) (xs := ([] : List (Str × Str))) p_nil (p_len (n := 0) (by decide))) p_nil) (p_len (n := 1) (by decide)))) (s_skip (s_setOE (e := (eL (eL (eT2 eS eS)))) (ev_ret (e := (eL (eL (eT2 eS eS)))) (p_lstE (e := (eL (eT2 eS eS))) (xs := ([] : List (List (Str × Str)))) p_nil (p_len (n := 0) (by decide)))) (fun found_v1 => (s_forget (s_next (E := (fun (s : (List (List (Str × Str)))) => [some (.val ((eL (eT2 eS eS)) left_)), some (.own ((eL (eL (eT2 eS eS))) s)), none, none, none])) (l_for (e := (eT2 eS eS)) (i_L (rfl : _ = M.ret ((eL (eT2 eS eS)) left_))) (rf_loopM (e := (eT2 eS eS)) (E := (fun (s : (List (List (Str × Str)))) => [some (.val ((eL (eT2 eS eS)) left_)), some (.own ((eL (eL (eT2 eS eS))) s)), none, none, none])) (fun _ _ => rfl) (fun x2 s3 => (s_extE (r_lcE rfl (i_LE (c_call (a_consP (d := (eL (eT2 eS eS)) ((left_.filter (fun x4 => (!decide (x4 = x2)))).map (fun x4 => x4))) (p_lc (c := fun x4 => (!decide (x4 = x2))) rfl (i_L (rfl : _ = M.ret ((eL (eT2 eS eS)) left_))) (fun _ => rfl) (fun x4 => (p_binT (rfl : _ = M.ret ((eT2 eS eS) x4)) (rfl : _ = M.ret ((eT2 eS eS) x2)) (o_neE (cT2 cS cS) (by decide) _ _))) (fun x4 => (rfl : _ = M.ret ((eT2 eS eS) x4)))) (a_nil (rf_law_orders _ _))))) (fun _ => rfl) (fun x5 => (et_ret rfl)) (fun x5 => (b_PP (p_lstE (e := (eT2 eS eS)) (xs := [x2]) (p_cons (rfl : _ = M.ret ((eT2 eS eS) x2)) p_nil) (p_len (n := 1) (by decide))) (rfl : _ = M.ret ((eL (eT2 eS eS)) x5)) (r_cat _ _)))) rfl (fun found_v7 => (e_goX rfl)))) left_ found_v1)) (fun s10 => (s_frz rfl (s_retP (r := s10) (x := s10) (fun _ => Or.inl rfl) (rfl : _ = M.ret ((eL (eL (eT2 eS eS))) s10)))))))))))
end K79

set_option Elab.async false
set_option linter.all false
set_option maxRecDepth 100000
set_option maxHeartbeats 0
namespace K79
open PySem PySem.Spec L2 DL
def t_holds_from : Nat → (List (Str × Str)) → (List Str) → Int → (List (List Int)) → (List (Str × Int)) → M Bool
  | 0, _, _, _, _, _ => .fail
  | k + 1, prefix_, names_, size_, rows_, values_ => (if (!(!prefix_.isEmpty)) then ((((lcM (fun x1 => (M.ret true)) (fun x1 => (getM values_ x1))) names_) >>= fun v2 => .ret v2) >>= fun v3 => .ret (memT v3 rows_)) else (ixM prefix_ (0 : Int)) >>= fun u5 => ((rgM 0 size_) >>= fun v8 => (lcM (fun x6 => (M.ret true)) (fun x6 => ((starM values_ u5.2 x6) >>= fun v7 => (t_holds_from k (cutD prefix_ (some (1 : Int)) none) names_ size_ rows_ v7)))) v8) >>= fun told_v9 => .ret (if (decide (u5.1 = s_all)) then (told_v9.all id) else (told_v9.any id)))
theorem rf_holds_from : ∀ (k : Nat) (prefix_ : (List (Str × Str))) (names_ : (List Str)) (size_ : Int) (rows_ : (List (List Int))) (values_ : (List (Str × Int))), Ev eB (f_holds_from (k + 0) [(eL (eT2 eS eS)) prefix_, (eL eS) names_, eI size_, (eL (eV eI)) rows_, (eK eS eI) values_]) (t_holds_from k prefix_ names_ size_ rows_ values_)
  | 0, _, _, _, _, _ => Rf.fail
  | k + 1, prefix_, names_, size_, rows_, values_ => by
    show Ev eB (f_holds_from (k + 0 + 1) [(eL (eT2 eS eS)) prefix_, (eL eS) names_, eI size_, (eL (eV eI)) rows_, (eK eS eI) values_]) _
    show Ev eB (fnM 9 [true, true, true, true, true] (b_holds_from (f_holds_from (k + 0)) (k + 0)) [(eL (eT2 eS eS)) prefix_, (eL eS) names_, eI size_, (eL (eV eI)) rows_, (eK eS eI) values_]) _
    exact rf_fn
      (s_iffP (p_not (p_tru (rfl : _ = M.ret ((eL (eT2 eS eS)) prefix_)) (t_L _))) (s_retF (fun _ _ => ⟨(fun z => nomatch z), Or.inl rfl⟩) (b_EP (c_call (a_cons (r_lc rfl (i_L (rfl : _ = M.ret ((eL eS) names_))) (fun _ => rfl) (fun x1 => (et_ret rfl)) (fun x1 => (b_PP (rfl : _ = M.ret ((eK eS eI) values_)) (rfl : _ = M.ret (eS x1)) (r_ixK kS _ _)))) (fun v2 => (a_nil (ev_ret (e := (eV eI)) rfl))))) (rfl : _ = M.ret ((eL (eV eI)) rows_)) (fun v3 => (ev_ret (e := eB) (o_minL (cV cI) (by decide) _ _))))) (s_skip (s_asgE (e := (eT2 eS eS)) (b_PP (rfl : _ = M.ret ((eL (eT2 eS eS)) prefix_)) (rfl : _ = M.ret (eI (0 : Int))) (r_ix _ _)) (fun _ => rfl) (fun u5 => (s_setE (e := (eL eB)) (r_lcE rfl (i_rg1 (rfl : _ = M.ret (eI size_))) (fun _ => rfl) (fun x6 => (et_ret rfl)) (fun x6 => (c_call (a_consP (d := (eL (eT2 eS eS)) (cutD prefix_ (some (1 : Int)) none)) (p_sl (rfl : _ = M.ret ((eL (eT2 eS eS)) prefix_)) (po_s (rfl : _ = M.ret (eI (1 : Int)))) po_n (o_slL _ _ _)) (a_consP (d := (eL eS) names_) (rfl : _ = M.ret ((eL eS) names_)) (a_consP (d := eI size_) (rfl : _ = M.ret (eI size_)) (a_consP (d := (eL (eV eI)) rows_) (rfl : _ = M.ret ((eL (eV eI)) rows_)) (a_cons (r_star kS (rfl : _ = M.ret ((eK eS eI) values_)) (rfl : _ = M.ret (eS u5.2)) (rfl : _ = M.ret (eI x6))) (fun v7 => (a_nil (rf_holds_from _ _ _ _ _ _))))))))))) (fun told_v9 => (s_retP (r := (if (decide (u5.1 = s_all)) then (told_v9.all id) else (told_v9.any id))) (x := (if (decide (u5.1 = s_all)) then (told_v9.all id) else (told_v9.any id))) (fun _ => Or.inl rfl) (p_ifE (e := eB) (p_binT (rfl : _ = M.ret (eS u5.1)) (rfl : _ = M.ret (eS s_all)) (o_eqE cS (by decide) _ _)) (p_call (p_cons (rfl : _ = M.ret ((eL eB) told_v9)) p_nil) (o_all _)) (p_call (p_cons (rfl : _ = M.ret ((eL eB) told_v9)) p_nil) (o_any _))))))))))
end K79

set_option Elab.async false
set_option linter.all false
set_option maxRecDepth 100000
set_option maxHeartbeats 0
namespace K79
open PySem PySem.Spec L2 DL
def t_holds : Nat → (List (Str × Str)) → (List Str) → Int → (List (List Int)) → M Bool
  | 0, _, _, _, _ => .fail
  | k + 1, prefix_, names_, size_, rows_ => ((t_holds_from k prefix_ names_ size_ rows_ ([] : (List (Str × Int)))))
theorem rf_holds : ∀ (k : Nat) (prefix_ : (List (Str × Str))) (names_ : (List Str)) (size_ : Int) (rows_ : (List (List Int))), Ev eB (f_holds (k + 0) [(eL (eT2 eS eS)) prefix_, (eL eS) names_, eI size_, (eL (eV eI)) rows_]) (t_holds k prefix_ names_ size_ rows_)
  | 0, _, _, _, _ => Rf.fail
  | k + 1, prefix_, names_, size_, rows_ => by
    show Ev eB (f_holds (k + 0 + 1) [(eL (eT2 eS eS)) prefix_, (eL eS) names_, eI size_, (eL (eV eI)) rows_]) _
    show Ev eB (fnM 4 [true, true, true, true] (b_holds (k + 0)) [(eL (eT2 eS eS)) prefix_, (eL eS) names_, eI size_, (eL (eV eI)) rows_]) _
    exact rf_fn
      (s_retF (fun _ _ => Or.inl rfl) (c_call (a_consP (d := (eL (eT2 eS eS)) prefix_) (rfl : _ = M.ret ((eL (eT2 eS eS)) prefix_)) (a_consP (d := (eL eS) names_) (rfl : _ = M.ret ((eL eS) names_)) (a_consP (d := eI size_) (rfl : _ = M.ret (eI size_)) (a_consP (d := (eL (eV eI)) rows_) (rfl : _ = M.ret ((eL (eV eI)) rows_)) (a_consP (d := (eK eS eI) ([] : (List (Str × Int)))) (p_newK (e := eS) (f := eI)) (a_nil (rf_holds_from _ _ _ _ _ _)))))))))
end K79

set_option Elab.async false
set_option linter.all false
set_option maxRecDepth 100000
set_option maxHeartbeats 0
namespace K79
open PySem PySem.Spec L2 DL
def t_law_holds : Nat → (List (Str × Str)) → (List Str) → Int → (List (List Int)) → (List (Str × Int)) → M Bool
  | 0, _, _, _, _, _ => .fail
  | k + 1, prefix_, names_, size_, rows_, values_ => (if (decide (((prefix_.length : Nat) : Int) = (0 : Int))) then ((((lcM (fun x1 => (M.ret true)) (fun x1 => (getM (dictT values_) x1))) names_) >>= fun v2 => .ret v2) >>= fun v3 => .ret (memT v3 rows_)) else ((rgM 0 size_) >>= fun v13 => (lcM (fun x5 => (M.ret true)) (fun x5 => ((((((ixM prefix_ (0 : Int)) >>= fun v6 => .ret v6.2) >>= fun v8 => .ret (v8, x5)) >>= fun v9 => .ret [v9]) >>= fun v11 => (catM values_ v11)) >>= fun v12 => (t_law_holds k (cutD prefix_ (some (1 : Int)) none) names_ size_ rows_ v12)))) v13) >>= fun told_v14 => ((((ixM prefix_ (0 : Int)) >>= fun v15 => .ret v15.1) >>= fun v17 => .ret (decide (v17 = s_all))) >>= fun kb => if kb then (M.ret (decide (((((told_v14.filter (fun x19 => x19)).map (fun x19 => x19)).length : Nat) : Int) = size_))) else (M.ret (decide ((0 : Int) < ((((told_v14.filter (fun x20 => x20)).map (fun x20 => x20)).length : Nat) : Int))))))
theorem rf_law_holds : ∀ (k : Nat) (prefix_ : (List (Str × Str))) (names_ : (List Str)) (size_ : Int) (rows_ : (List (List Int))) (values_ : (List (Str × Int))), Ev eB (f_law_holds (k + 0) [(eL (eT2 eS eS)) prefix_, (eL eS) names_, eI size_, (eL (eV eI)) rows_, (eL (eT2 eS eI)) values_]) (t_law_holds k prefix_ names_ size_ rows_ values_)
  | 0, _, _, _, _, _ => Rf.fail
  | k + 1, prefix_, names_, size_, rows_, values_ => by
    show Ev eB (f_law_holds (k + 0 + 1) [(eL (eT2 eS eS)) prefix_, (eL eS) names_, eI size_, (eL (eV eI)) rows_, (eL (eT2 eS eI)) values_]) _
    show Ev eB (fnM 9 [true, true, true, true, true] (b_law_holds (f_law_holds (k + 0)) (k + 0)) [(eL (eT2 eS eS)) prefix_, (eL eS) names_, eI size_, (eL (eV eI)) rows_, (eL (eT2 eS eI)) values_]) _
    exact rf_fn
      (s_iffP (p_binT (p_call (p_cons (rfl : _ = M.ret ((eL (eT2 eS eS)) prefix_)) p_nil) (o_lenL _)) (rfl : _ = M.ret (eI (0 : Int))) (o_eqE cI (by decide) _ _)) (s_retF (fun _ _ => ⟨(fun z => nomatch z), Or.inl rfl⟩) (b_EP (c_call (a_cons (r_lc rfl (i_L (rfl : _ = M.ret ((eL eS) names_))) (fun _ => rfl) (fun x1 => (et_ret rfl)) (fun x1 => (b_PP (p_call (p_cons (rfl : _ = M.ret ((eL (eT2 eS eI)) values_)) p_nil) (o_dict kS _)) (rfl : _ = M.ret (eS x1)) (r_ixK kS _ _)))) (fun v2 => (a_nil (ev_ret (e := (eV eI)) rfl))))) (rfl : _ = M.ret ((eL (eV eI)) rows_)) (fun v3 => (ev_ret (e := eB) (o_minL (cV cI) (by decide) _ _))))) (s_skip (s_setE (e := (eL eB)) (r_lcE rfl (i_rg1 (rfl : _ = M.ret (eI size_))) (fun _ => rfl) (fun x5 => (et_ret rfl)) (fun x5 => (c_call (a_consP (d := (eL (eT2 eS eS)) (cutD prefix_ (some (1 : Int)) none)) (p_sl (rfl : _ = M.ret ((eL (eT2 eS eS)) prefix_)) (po_s (rfl : _ = M.ret (eI (1 : Int)))) po_n (o_slL _ _ _)) (a_consP (d := (eL eS) names_) (rfl : _ = M.ret ((eL eS) names_)) (a_consP (d := eI size_) (rfl : _ = M.ret (eI size_)) (a_consP (d := (eL (eV eI)) rows_) (rfl : _ = M.ret ((eL (eV eI)) rows_)) (a_cons (b_PE (rfl : _ = M.ret ((eL (eT2 eS eI)) values_)) (r_lst (a_cons (r_tup (a_cons (b_EP (b_PP (rfl : _ = M.ret ((eL (eT2 eS eS)) prefix_)) (rfl : _ = M.ret (eI (0 : Int))) (r_ix _ _)) (rfl : _ = M.ret (eI (1 : Int))) (fun v6 => (ev_ret (e := eS) rfl))) (fun v8 => (a_consP (d := eI x5) (rfl : _ = M.ret (eI x5)) (a_nil (k_disp (R := Re (eT2 eS eI)) (r := ((v8, x5) : (Str × Int))) (p_len (n := 2) (by decide)) rfl)))))) (fun v9 => (a_nil (k_disp (R := Re (eL (eT2 eS eI))) (r := ([v9] : (List (Str × Int)))) (p_len (n := 1) (by decide)) rfl))))) (fun v11 => (r_cat _ _))) (fun v12 => (a_nil (rf_law_holds _ _ _ _ _ _))))))))))) (fun told_v14 => (s_retF (fun _ _ => Or.inl rfl) (r_ifE (t_E (b_EP (b_EP (b_PP (rfl : _ = M.ret ((eL (eT2 eS eS)) prefix_)) (rfl : _ = M.ret (eI (0 : Int))) (r_ix _ _)) (rfl : _ = M.ret (eI (0 : Int))) (fun v15 => (ev_ret (e := eS) rfl))) (rfl : _ = M.ret (eS s_all)) (fun v17 => (ev_ret (e := eB) (o_eqE cS (by decide) _ _))))) (ev_ret (e := eB) (p_bin (p_call (p_cons (p_lc (c := fun x19 => x19) rfl (i_L (rfl : _ = M.ret ((eL eB) told_v14))) (fun _ => rfl) (fun x19 => (p_tru (rfl : _ = M.ret (eB x19)) rfl)) (fun x19 => (rfl : _ = M.ret (eB x19)))) p_nil) (o_lenL _)) (rfl : _ = M.ret (eI size_)) (o_eqE cI (by decide) _ _))) (ev_ret (e := eB) (p_bin (p_call (p_cons (p_lc (c := fun x20 => x20) rfl (i_L (rfl : _ = M.ret ((eL eB) told_v14))) (fun _ => rfl) (fun x20 => (p_tru (rfl : _ = M.ret (eB x20)) rfl)) (fun x20 => (rfl : _ = M.ret (eB x20)))) p_nil) (o_lenL _)) (rfl : _ = M.ret (eI (0 : Int))) rfl))))))))
end K79

set_option Elab.async false
set_option linter.all false
set_option maxRecDepth 100000
set_option maxHeartbeats 0
namespace K79
open PySem PySem.Spec L2 DL
def t_rows_apart (names_ : (List Str)) (pair_ : D) : M (List (List Int)) := (M.ret [([] : (List Int))]) >>= fun rows_v1 => ((loopM (fun x2 s3 => ((M.ret s3) >>= fun v6 => lc2L (fun x4 => (M.ret true)) (fun x4 => (M.ret [(0 : Int), (1 : Int)])) (fun x4 x5 => (M.ret true)) (fun x4 x5 => (catM x4 [x5])) v6 []) >>= fun rows_v7 => .ret rows_v7) names_ rows_v1) : M (List (List Int))) >>= fun s9 => ((((dIx pair_ (eI (0 : Int))) >>= asSD) >>= fun v10 => indexM names_ v10) >>= fun v12 => (((dIx pair_ (eI (1 : Int))) >>= asSD) >>= fun v11 => indexM names_ v11) >>= fun v13 => .ret (v12, v13)) >>= fun u14 => ((lcM (fun x15 => ((ixM x15 u14.1) >>= fun v16 => (ixM x15 u14.2) >>= fun v17 => .ret (decide (v16 = v17)))) (fun x15 => (M.ret x15))) s9)
theorem rf_rows_apart (k : Nat) (names_ : (List Str)) (pair_ : D) : Ev (eL (eV eI)) (f_rows_apart (k + 1) [(eL eS) names_, eD pair_]) (t_rows_apart names_ pair_) := by
  show Ev (eL (eV eI)) (fnM 8 [false, true] (b_rows_apart (k + 0)) [(eL eS) names_, eD pair_]) _
  exact rf_fn
    (s_setE (e := (eL (eV eI))) (ev_ret (e := (eL (eV eI))) (p_lstE (e := (eV eI)) (xs := [([] : (List Int))]) (p_cons (p_tupE (e := eI) (xs := ([] : List Int)) p_nil (p_len (n := 0) (by decide))) p_nil) (p_len (n := 1) (by decide)))) (fun rows_v1 => (s_forget (s_next (E := (fun (s : (List (List Int))) => [some (.val ((eL eS) names_)), some (.bor (eD pair_)), some (.val ((eL (eV eI)) s)), none, none, none, none, none])) (l_for (e := eS) (i_L (rfl : _ = M.ret ((eL eS) names_))) (rf_loopM (e := eS) (E := (fun (s : (List (List Int))) => [some (.val ((eL eS) names_)), some (.bor (eD pair_)), some (.val ((eL (eV eI)) s)), none, none, none, none, none])) (fun _ _ => rfl) (fun x2 s3 => (s_setE (e := (eL (eV eI))) (r_lc2E (e := (eV eI)) (f := eI) (g := (eV eI)) rfl (ri_ret (e := (eV eI)) (i_L (rfl : _ = M.ret ((eL (eV eI)) s3)))) (fun _ => rfl) (fun x4 => (et_ret rfl)) (fun _ => rfl) (fun x4 => (ri_ret (e := eI) (i_V (p_tupE (e := eI) (xs := [(0 : Int), (1 : Int)]) (p_cons (rfl : _ = M.ret (eI (0 : Int))) (p_cons (rfl : _ = M.ret (eI (1 : Int))) p_nil)) (p_len (n := 2) (by decide)))))) (fun _ _ => rfl) (fun x4 x5 => (et_ret rfl)) (fun x4 x5 => (b_PP (rfl : _ = M.ret ((eV eI) x4)) (p_tupE (e := eI) (xs := [x5]) (p_cons (rfl : _ = M.ret (eI x5)) p_nil) (p_len (n := 1) (by decide))) (r_catV _ _)))) (fun rows_v7 => (e_goX rfl)))) names_ rows_v1)) (fun s9 => (s_asgE (e := (eT2 eI eI)) (r_tup (a_cons (r_indexE cS (by decide) (rfl : _ = M.ret ((eL eS) names_)) (q_E q_S (b_PP (rfl : _ = M.ret (eD pair_)) (rfl : _ = M.ret (eI (0 : Int))) (ev_id _)))) (fun v12 => (a_cons (r_indexE cS (by decide) (rfl : _ = M.ret ((eL eS) names_)) (q_E q_S (b_PP (rfl : _ = M.ret (eD pair_)) (rfl : _ = M.ret (eI (1 : Int))) (ev_id _)))) (fun v13 => (a_nil (k_disp (R := Re (eT2 eI eI)) (r := ((v12, v13) : (Int × Int))) (p_len (n := 2) (by decide)) rfl))))))) (fun _ => rfl) (fun u14 => (s_retF (fun _ _ => Or.inl rfl) (r_lc rfl (i_L (rfl : _ = M.ret ((eL (eV eI)) s9))) (fun _ => rfl) (fun x15 => (t_E (b_EE (b_PP (rfl : _ = M.ret ((eV eI) x15)) (rfl : _ = M.ret (eI u14.1)) (r_ixV _ _)) (b_PP (rfl : _ = M.ret ((eV eI) x15)) (rfl : _ = M.ret (eI u14.2)) (r_ixV _ _)) (fun v16 v17 => (ev_ret (e := eB) (o_eqE cI (by decide) _ _)))))) (fun x15 => (ev_ret (e := (eV eI)) (rfl : _ = M.ret ((eV eI) x15)))))))))))))
end K79

set_option Elab.async false
set_option linter.all false
set_option maxRecDepth 100000
set_option maxHeartbeats 0
namespace K79
open PySem PySem.Spec L2 DL
def t_entails_fault (one_ : (List (Str × Str))) (other_ : (List (Str × Str))) (told_ : D) : M D := (((dIx told_ (eI (0 : Int))) >>= fun v1 => (asBM (dEq v1 (eS s_swaps)))) >>= fun kb => if kb then (M.ret (some one_)) >>= fun row_v3 => ((((dIx told_ (eI (1 : Int))) >>= enumDM) >>= fun v9 => loopR (fun x4 s5 => ((M.opt s5) >>= fun v6 => (asI x4.2) >>= fun v7 => (t_swapped v6 v7)) >>= fun row_v8 => (if row_v8.isNone then .ret (.back ((eT2 eS eI) (s_swap, x4.1))) else .ret (.go row_v8))) v9 row_v3) : M (Fw (Option (List (Str × Str))) D)) >>= contR (fun s10 => .ret (if (decide (s10 = (some other_))) then (eN ()) else ((eT1 eS) s_other))) (fun r => r) else ((((dIx told_ (eI (1 : Int))) >>= asSD) >>= fun v11 => .ret (s_all, v11)) >>= fun v13 => (((dIx told_ (eI (2 : Int))) >>= asSD) >>= fun v12 => .ret (s_some, v12)) >>= fun v14 => .ret (v13, v14)) >>= fun pair_v15 => (if ((!memT pair_v15.1 one_) || (!memT pair_v15.2 one_)) then .ret ((eT1 eS) s_names) else (((indexM one_ pair_v15.1) >>= fun v16 => (indexM one_ pair_v15.2) >>= fun v17 => .ret (decide (v16 < v17))) >>= fun kb => if kb then ((indexM other_ pair_v15.2) >>= fun v18 => (indexM other_ pair_v15.1) >>= fun v19 => .ret (decide (v18 < v19))) else .ret false) >>= fun right_v20 => .ret (if right_v20 then (eN ()) else ((eT1 eS) s_pair))))
theorem rf_entails_fault (k : Nat) (one_ : (List (Str × Str))) (other_ : (List (Str × Str))) (told_ : D) : Ev eD (f_entails_fault (k + 2) [(eL (eT2 eS eS)) one_, (eL (eT2 eS eS)) other_, eD told_]) (t_entails_fault one_ other_ told_) := by
  show Ev eD (fnM 8 [true, true, true] (b_entails_fault (k + 1)) [(eL (eT2 eS eS)) one_, (eL (eT2 eS eS)) other_, eD told_]) _
  exact rf_fn
    (s_iff (t_E (b_EP (b_PP (rfl : _ = M.ret (eD told_)) (rfl : _ = M.ret (eI (0 : Int))) (ev_id _)) (rfl : _ = M.ret (eS s_swaps)) (fun v1 => (ev_asB _)))) (s_setE (e := (eO (eL (eT2 eS eS)))) (ev_ret (e := (eO (eL (eT2 eS eS)))) (p_call (p_cons (rfl : _ = M.ret ((eL (eT2 eS eS)) one_)) p_nil) rfl)) (fun row_v3 => (s_forget (s_nextR (E := (fun (s : (Option (List (Str × Str)))) => [some (.bor ((eL (eT2 eS eS)) one_)), some (.bor ((eL (eT2 eS eS)) other_)), some (.bor (eD told_)), none, none, some (.val ((eO (eL (eT2 eS eS))) s)), none, none])) (eρ := eD) (f := fun r => r) (fun _ _ => ⟨(fun z => nomatch z), Or.inl rfl⟩) (l_forE (e := (eT2 eI eD)) (i_enumDE (b_PP (rfl : _ = M.ret (eD told_)) (rfl : _ = M.ret (eI (1 : Int))) (ev_id _))) (fun v9 => (rf_loopR (e := (eT2 eI eD)) (E := (fun (s : (Option (List (Str × Str)))) => [some (.bor ((eL (eT2 eS eS)) one_)), some (.bor ((eL (eT2 eS eS)) other_)), some (.bor (eD told_)), none, none, some (.val ((eO (eL (eT2 eS eS))) s)), none, none])) (eρ := eD) (fun _ _ => rfl) (fun x4 s5 => (s_setE (e := (eO (eL (eT2 eS eS)))) (c_call (a_cons (q_O (e := (eL (eT2 eS eS))) (rfl : _ = M.ret ((eO (eL (eT2 eS eS))) s5))) (fun v6 => (a_cons (q_P q_I (rfl : _ = M.ret (eD x4.2))) (fun v7 => (a_nil (rf_swapped _ _ _))))))) (fun row_v8 => (s_iffP (p_binT (rfl : _ = M.ret ((eO (eL (eT2 eS eS))) row_v8)) (rfl : _ = M.ret (eN ())) (o_isO nnL _)) (s_retP (r := ((eT2 eS eI) (s_swap, x4.1))) (x := Fw.back ((eT2 eS eI) (s_swap, x4.1))) (fun _ => ⟨(fun z => nomatch z), rfl⟩) (p_tup (ds := [eS s_swap, eI x4.1]) (p_cons (rfl : _ = M.ret (eS s_swap)) (p_cons (rfl : _ = M.ret (eI x4.1)) p_nil)) (p_len (n := 2) (by decide)))) (s_skip (e_goT rfl)))))) v9 row_v3))) (fun s10 => (s_retP (r := (if (decide (s10 = (some other_))) then (eN ()) else ((eT1 eS) s_other))) (x := (if (decide (s10 = (some other_))) then (eN ()) else ((eT1 eS) s_other))) (fun _ => ⟨(fun z => nomatch z), Or.inl rfl⟩) (p_ifE (e := eD) (p_binT (rfl : _ = M.ret ((eO (eL (eT2 eS eS))) s10)) (rfl : _ = M.ret ((eL (eT2 eS eS)) other_)) (o_eqE (cO (cL (cT2 cS cS)) nnL) (by decide) _ _)) (rfl : _ = M.ret (eN ())) (p_tup (ds := [eS s_other]) (p_cons (rfl : _ = M.ret (eS s_other)) p_nil) (p_len (n := 1) (by decide)))))))))) (s_skipF (s_setE (e := (eT2 (eT2 eS eS) (eT2 eS eS))) (r_tup (a_cons (r_tup (a_consP (d := eS s_all) (rfl : _ = M.ret (eS s_all)) (a_cons (q_E q_S (b_PP (rfl : _ = M.ret (eD told_)) (rfl : _ = M.ret (eI (1 : Int))) (ev_id _))) (fun v11 => (a_nil (k_disp (R := Re (eT2 eS eS)) (r := ((s_all, v11) : (Str × Str))) (p_len (n := 2) (by decide)) rfl)))))) (fun v13 => (a_cons (r_tup (a_consP (d := eS s_some) (rfl : _ = M.ret (eS s_some)) (a_cons (q_E q_S (b_PP (rfl : _ = M.ret (eD told_)) (rfl : _ = M.ret (eI (2 : Int))) (ev_id _))) (fun v12 => (a_nil (k_disp (R := Re (eT2 eS eS)) (r := ((s_some, v12) : (Str × Str))) (p_len (n := 2) (by decide)) rfl)))))) (fun v14 => (a_nil (k_disp (R := Re (eT2 (eT2 eS eS) (eT2 eS eS))) (r := ((v13, v14) : ((Str × Str) × (Str × Str)))) (p_len (n := 2) (by decide)) rfl))))))) (fun pair_v15 => (s_iffP (p_or (p_binT (p_bin (rfl : _ = M.ret ((eT2 (eT2 eS eS) (eT2 eS eS)) pair_v15)) (rfl : _ = M.ret (eI (0 : Int))) rfl) (rfl : _ = M.ret ((eL (eT2 eS eS)) one_)) (o_mnotInL (cT2 cS cS) (by decide) _ _)) (p_binT (p_bin (rfl : _ = M.ret ((eT2 (eT2 eS eS) (eT2 eS eS)) pair_v15)) (rfl : _ = M.ret (eI (1 : Int))) rfl) (rfl : _ = M.ret ((eL (eT2 eS eS)) one_)) (o_mnotInL (cT2 cS cS) (by decide) _ _))) (s_retP (r := ((eT1 eS) s_names)) (x := ((eT1 eS) s_names)) (fun _ => ⟨(fun z => nomatch z), Or.inl rfl⟩) (p_tup (ds := [eS s_names]) (p_cons (rfl : _ = M.ret (eS s_names)) p_nil) (p_len (n := 1) (by decide)))) (s_skip (s_setE (e := eB) (r_andV (b_EE (r_index (cT2 cS cS) (by decide) (rfl : _ = M.ret ((eL (eT2 eS eS)) one_)) (p_bin (rfl : _ = M.ret ((eT2 (eT2 eS eS) (eT2 eS eS)) pair_v15)) (rfl : _ = M.ret (eI (0 : Int))) rfl)) (r_index (cT2 cS cS) (by decide) (rfl : _ = M.ret ((eL (eT2 eS eS)) one_)) (p_bin (rfl : _ = M.ret ((eT2 (eT2 eS eS) (eT2 eS eS)) pair_v15)) (rfl : _ = M.ret (eI (1 : Int))) rfl)) (fun v16 v17 => (ev_ret (e := eB) rfl))) (b_EE (r_index (cT2 cS cS) (by decide) (rfl : _ = M.ret ((eL (eT2 eS eS)) other_)) (p_bin (rfl : _ = M.ret ((eT2 (eT2 eS eS) (eT2 eS eS)) pair_v15)) (rfl : _ = M.ret (eI (1 : Int))) rfl)) (r_index (cT2 cS cS) (by decide) (rfl : _ = M.ret ((eL (eT2 eS eS)) other_)) (p_bin (rfl : _ = M.ret ((eT2 (eT2 eS eS) (eT2 eS eS)) pair_v15)) (rfl : _ = M.ret (eI (0 : Int))) rfl)) (fun v18 v19 => (ev_ret (e := eB) rfl)))) (fun right_v20 => (s_retP (r := (if right_v20 then (eN ()) else ((eT1 eS) s_pair))) (x := (if right_v20 then (eN ()) else ((eT1 eS) s_pair))) (fun _ => Or.inl rfl) (p_ifE (e := eD) (p_tru (rfl : _ = M.ret (eB right_v20)) rfl) (rfl : _ = M.ret (eN ())) (p_tup (ds := [eS s_pair]) (p_cons (rfl : _ = M.ret (eS s_pair)) p_nil) (p_len (n := 1) (by decide)))))))))))))
end K79

set_option Elab.async false
set_option linter.all false
set_option maxRecDepth 100000
set_option maxHeartbeats 0
namespace K79
open PySem PySem.Spec L2 DL
def t_law_fault (one_ : (List (Str × Str))) (other_ : (List (Str × Str))) (told_ : D) : M D := (((dIx told_ (eI (0 : Int))) >>= fun v1 => (asBM (dEq v1 (eS s_swaps)))) >>= fun kb => if kb then (((((dIx told_ (eI (1 : Int))) >>= fun v3 => (asIM (dLen [v3]))) >>= fun v4 => rgM 0 v4) >>= fun v25 => loopR (fun x5 s6 => (((dIx told_ (eI (1 : Int))) >>= fun v7 => (dIx v7 (eI x5))) >>= asI) >>= fun place_v9 => ((if (!((decide ((0 : Int) ≤ place_v9)) && (decide (place_v9 < (((s6.length : Nat) : Int) - (1 : Int)))))) then .ret true else ((((ixM s6 place_v9) >>= fun v10 => .ret v10.1) >>= fun v12 => .ret (decide (v12 = s_all))) >>= fun kb => if kb then (((ixM s6 (place_v9 + (1 : Int))) >>= fun v14 => .ret v14.1) >>= fun v16 => .ret (decide (v16 = s_some))) else .ret false)) >>= fun kb => if kb then .ret (.back ((eT2 eS eI) (s_swap, x5))) else ((((ixM s6 (place_v9 + (1 : Int))) >>= fun v18 => (ixM s6 place_v9) >>= fun v19 => .ret [v18, v19]) >>= fun v21 => (catM (cutD s6 none (some place_v9)) v21)) >>= fun v22 => (catM v22 (cutD s6 (some (place_v9 + (2 : Int))) none))) >>= fun row_v24 => .ret (.go row_v24))) v25 one_) : M (Fw (List (Str × Str)) D)) >>= contR (fun s26 => .ret (if (decide (s26 = other_)) then (eN ()) else ((eT1 eS) s_other))) (fun r => r) else ((((((dIx told_ (eI (1 : Int))) >>= asSD) >>= fun v27 => .ret (s_all, v27)) >>= fun v28 => .ret (!memT v28 one_)) >>= fun kb => if kb then .ret true else ((((dIx told_ (eI (2 : Int))) >>= asSD) >>= fun v30 => .ret (s_some, v30)) >>= fun v31 => .ret (!memT v31 one_))) >>= fun kb => if kb then .ret ((eT1 eS) s_names) else (((dIx told_ (eI (1 : Int))) >>= asSD) >>= fun v33 => .ret (s_all, v33)) >>= fun first_v35 => (((dIx told_ (eI (2 : Int))) >>= asSD) >>= fun v34 => .ret (s_some, v34)) >>= fun second_v36 => ((((indexM one_ first_v35) >>= fun v37 => (indexM one_ second_v36) >>= fun v38 => .ret (decide (v37 < v38))) >>= fun kb => if kb then ((indexM other_ second_v36) >>= fun v39 => (indexM other_ first_v35) >>= fun v40 => .ret (decide (v39 < v40))) else .ret false) >>= fun kb => if kb then (M.ret (eN ())) else (M.ret ((eT1 eS) s_pair)))))
theorem rf_law_fault (k : Nat) (one_ : (List (Str × Str))) (other_ : (List (Str × Str))) (told_ : D) : Ev eD (f_law_fault (k + 1) [(eL (eT2 eS eS)) one_, (eL (eT2 eS eS)) other_, eD told_]) (t_law_fault one_ other_ told_) := by
  show Ev eD (fnM 8 [true, true, true] (b_law_fault (k + 0)) [(eL (eT2 eS eS)) one_, (eL (eT2 eS eS)) other_, eD told_]) _
  exact rf_fn
    (s_iff (t_E (b_EP (b_PP (rfl : _ = M.ret (eD told_)) (rfl : _ = M.ret (eI (0 : Int))) (ev_id _)) (rfl : _ = M.ret (eS s_swaps)) (fun v1 => (ev_asB _)))) (s_setP (p_call (p_cons (rfl : _ = M.ret ((eL (eT2 eS eS)) one_)) p_nil) rfl) (s_forget (s_nextR (E := (fun (s : (List (Str × Str))) => [some (.bor ((eL (eT2 eS eS)) one_)), some (.bor ((eL (eT2 eS eS)) other_)), some (.bor (eD told_)), some (.val ((eL (eT2 eS eS)) s)), none, none, none, none])) (eρ := eD) (f := fun r => r) (fun _ _ => ⟨(fun z => nomatch z), Or.inl rfl⟩) (l_forE (e := eI) (i_rg1E (c_call (a_cons (b_PP (rfl : _ = M.ret (eD told_)) (rfl : _ = M.ret (eI (1 : Int))) (ev_id _)) (fun v3 => (a_nil (ev_asI _)))))) (fun v25 => (rf_loopR (e := eI) (E := (fun (s : (List (Str × Str))) => [some (.bor ((eL (eT2 eS eS)) one_)), some (.bor ((eL (eT2 eS eS)) other_)), some (.bor (eD told_)), some (.val ((eL (eT2 eS eS)) s)), none, none, none, none])) (eρ := eD) (fun _ _ => rfl) (fun x5 s6 => (s_setE (e := eI) (q_E q_I (b_EP (b_PP (rfl : _ = M.ret (eD told_)) (rfl : _ = M.ret (eI (1 : Int))) (ev_id _)) (rfl : _ = M.ret (eI x5)) (fun v7 => (ev_id _)))) (fun place_v9 => (s_iff (r_orP (p_not (p_TE (p_chain (rfl : _ = M.ret (eI (0 : Int))) (rfl : _ = M.ret (eI place_v9)) (p_bin (p_call (p_cons (rfl : _ = M.ret ((eL (eT2 eS eS)) s6)) p_nil) (o_lenL _)) (rfl : _ = M.ret (eI (1 : Int))) rfl) rfl rfl))) (r_and (t_E (b_EP (b_EP (b_PP (rfl : _ = M.ret ((eL (eT2 eS eS)) s6)) (rfl : _ = M.ret (eI place_v9)) (r_ix _ _)) (rfl : _ = M.ret (eI (0 : Int))) (fun v10 => (ev_ret (e := eS) rfl))) (rfl : _ = M.ret (eS s_all)) (fun v12 => (ev_ret (e := eB) (o_eqE cS (by decide) _ _))))) (t_E (b_EP (b_EP (b_PP (rfl : _ = M.ret ((eL (eT2 eS eS)) s6)) (p_bin (rfl : _ = M.ret (eI place_v9)) (rfl : _ = M.ret (eI (1 : Int))) rfl) (r_ix _ _)) (rfl : _ = M.ret (eI (0 : Int))) (fun v14 => (ev_ret (e := eS) rfl))) (rfl : _ = M.ret (eS s_some)) (fun v16 => (ev_ret (e := eB) (o_eqE cS (by decide) _ _))))))) (s_retP (r := ((eT2 eS eI) (s_swap, x5))) (x := Fw.back ((eT2 eS eI) (s_swap, x5))) (fun _ => ⟨(fun z => nomatch z), rfl⟩) (p_tup (ds := [eS s_swap, eI x5]) (p_cons (rfl : _ = M.ret (eS s_swap)) (p_cons (rfl : _ = M.ret (eI x5)) p_nil)) (p_len (n := 2) (by decide)))) (s_skip (s_setE (e := (eL (eT2 eS eS))) (b_EP (b_PE (p_sl (rfl : _ = M.ret ((eL (eT2 eS eS)) s6)) po_n (po_s (rfl : _ = M.ret (eI place_v9))) (o_slL _ _ _)) (r_lst (a_cons (b_PP (rfl : _ = M.ret ((eL (eT2 eS eS)) s6)) (p_bin (rfl : _ = M.ret (eI place_v9)) (rfl : _ = M.ret (eI (1 : Int))) rfl) (r_ix _ _)) (fun v18 => (a_cons (b_PP (rfl : _ = M.ret ((eL (eT2 eS eS)) s6)) (rfl : _ = M.ret (eI place_v9)) (r_ix _ _)) (fun v19 => (a_nil (k_disp (R := Re (eL (eT2 eS eS))) (r := ([v18, v19] : (List (Str × Str)))) (p_len (n := 2) (by decide)) rfl))))))) (fun v21 => (r_cat _ _))) (p_sl (rfl : _ = M.ret ((eL (eT2 eS eS)) s6)) (po_s (p_bin (rfl : _ = M.ret (eI place_v9)) (rfl : _ = M.ret (eI (2 : Int))) rfl)) po_n (o_slL _ _ _)) (fun v22 => (r_cat _ _))) (fun row_v24 => (e_goT rfl)))))))) v25 one_))) (fun s26 => (s_retP (r := (if (decide (s26 = other_)) then (eN ()) else ((eT1 eS) s_other))) (x := (if (decide (s26 = other_)) then (eN ()) else ((eT1 eS) s_other))) (fun _ => ⟨(fun z => nomatch z), Or.inl rfl⟩) (p_ifE (e := eD) (p_binT (rfl : _ = M.ret ((eL (eT2 eS eS)) s26)) (rfl : _ = M.ret ((eL (eT2 eS eS)) other_)) (o_eqE (cL (cT2 cS cS)) (by decide) _ _)) (rfl : _ = M.ret (eN ())) (p_tup (ds := [eS s_other]) (p_cons (rfl : _ = M.ret (eS s_other)) p_nil) (p_len (n := 1) (by decide))))))))) (s_skipF (s_iff (r_or (t_E (b_EP (r_tup (a_consP (d := eS s_all) (rfl : _ = M.ret (eS s_all)) (a_cons (q_E q_S (b_PP (rfl : _ = M.ret (eD told_)) (rfl : _ = M.ret (eI (1 : Int))) (ev_id _))) (fun v27 => (a_nil (k_disp (R := Re (eT2 eS eS)) (r := ((s_all, v27) : (Str × Str))) (p_len (n := 2) (by decide)) rfl)))))) (rfl : _ = M.ret ((eL (eT2 eS eS)) one_)) (fun v28 => (ev_ret (e := eB) (o_mnotInL (cT2 cS cS) (by decide) _ _))))) (t_E (b_EP (r_tup (a_consP (d := eS s_some) (rfl : _ = M.ret (eS s_some)) (a_cons (q_E q_S (b_PP (rfl : _ = M.ret (eD told_)) (rfl : _ = M.ret (eI (2 : Int))) (ev_id _))) (fun v30 => (a_nil (k_disp (R := Re (eT2 eS eS)) (r := ((s_some, v30) : (Str × Str))) (p_len (n := 2) (by decide)) rfl)))))) (rfl : _ = M.ret ((eL (eT2 eS eS)) one_)) (fun v31 => (ev_ret (e := eB) (o_mnotInL (cT2 cS cS) (by decide) _ _)))))) (s_retP (r := ((eT1 eS) s_names)) (x := ((eT1 eS) s_names)) (fun _ => ⟨(fun z => nomatch z), Or.inl rfl⟩) (p_tup (ds := [eS s_names]) (p_cons (rfl : _ = M.ret (eS s_names)) p_nil) (p_len (n := 1) (by decide)))) (s_skip (s_parK (a_cons (e := (eT2 eS eS)) (r_tup (a_consP (d := eS s_all) (rfl : _ = M.ret (eS s_all)) (a_cons (q_E q_S (b_PP (rfl : _ = M.ret (eD told_)) (rfl : _ = M.ret (eI (1 : Int))) (ev_id _))) (fun v33 => (a_nil (k_disp (R := Re (eT2 eS eS)) (r := ((s_all, v33) : (Str × Str))) (p_len (n := 2) (by decide)) rfl)))))) (fun first_v35 => (a_cons (e := (eT2 eS eS)) (r_tup (a_consP (d := eS s_some) (rfl : _ = M.ret (eS s_some)) (a_cons (q_E q_S (b_PP (rfl : _ = M.ret (eD told_)) (rfl : _ = M.ret (eI (2 : Int))) (ev_id _))) (fun v34 => (a_nil (k_disp (R := Re (eT2 eS eS)) (r := ((s_some, v34) : (Str × Str))) (p_len (n := 2) (by decide)) rfl)))))) (fun second_v36 => (a_nil (k_par (s_retF (fun _ _ => Or.inl rfl) (r_ifE (r_and (t_E (b_EE (r_index (cT2 cS cS) (by decide) (rfl : _ = M.ret ((eL (eT2 eS eS)) one_)) (rfl : _ = M.ret ((eT2 eS eS) first_v35))) (r_index (cT2 cS cS) (by decide) (rfl : _ = M.ret ((eL (eT2 eS eS)) one_)) (rfl : _ = M.ret ((eT2 eS eS) second_v36))) (fun v37 v38 => (ev_ret (e := eB) rfl)))) (t_E (b_EE (r_index (cT2 cS cS) (by decide) (rfl : _ = M.ret ((eL (eT2 eS eS)) other_)) (rfl : _ = M.ret ((eT2 eS eS) second_v36))) (r_index (cT2 cS cS) (by decide) (rfl : _ = M.ret ((eL (eT2 eS eS)) other_)) (rfl : _ = M.ret ((eT2 eS eS) first_v35))) (fun v39 v40 => (ev_ret (e := eB) rfl))))) (ev_ret (e := eD) (rfl : _ = M.ret (eN ()))) (ev_ret (e := eD) (p_tup (ds := [eS s_pair]) (p_cons (rfl : _ = M.ret (eS s_pair)) p_nil) (p_len (n := 1) (by decide)))))))))))))))))
end K79

set_option Elab.async false
set_option linter.all false
set_option maxRecDepth 100000
set_option maxHeartbeats 0
namespace K79
open PySem PySem.Spec L2 DL
def t_law_r15 (k : Nat) (count_ : Int) (names_ : (List Str)) (pairs_ : (List (Str × Str))) (orders_ : (List (List (Str × Str)))) (told_ : D) (every_ : (List (List Int))) (same_ : (List (List (Str × Str)))) (one_ : (List (Str × Str))) (other_ : (List (Str × Str))) (says_ : Bool) (back_ : Bool) : M Bool := (((rgM 0 (7 : Int)) >>= fun v161 => onceR (fun s116 => ((((dIx told_ (eI (0 : Int))) >>= fun v117 => (asBM (dEq v117 (eS s_swaps)))) >>= fun kb => if kb then ((dIx told_ (eI (1 : Int))) >>= fun v119 => (dList [v119])) >>= fun row_v120 => (((((dSl row_v120 (some (1 : Int)) none) >>= fun v122 => .ret (s_swaps, v122)) >>= fun v123 => .ret ((eT2 eS eD) v123)) >>= fun v134 => ((((((((askM (4 : Int))) >>= fun v124 => .ret (v124 - (1 : Int))) >>= fun v126 => .ret [v126]) >>= fun v127 => .ret ((eL eI) v127)) >>= fun v129 => (dAdd row_v120 v129)) >>= fun v130 => .ret (s_swaps, v130)) >>= fun v131 => .ret ((eT2 eS eD) v131)) >>= fun v135 => (((revDM row_v120) >>= fun v132 => .ret (s_swaps, v132)) >>= fun v133 => .ret ((eT2 eS eD) v133)) >>= fun v136 => .ret [v134, v135, v136, ((eT3 eS eS eS) (s_apart, s_x, s_y))]) >>= fun v137 => ((askM (4 : Int))) >>= fun v138 => (ixM v137 v138)) >>= fun bent_v139 => .ret bent_v139 else (((((dIx told_ (eI (2 : Int))) >>= fun v140 => (dIx told_ (eI (1 : Int))) >>= fun v141 => .ret (s_apart, v140, v141)) >>= fun v142 => .ret ((eT3 eS eD eD) v142)) >>= fun v151 => (((dIx told_ (eI (1 : Int))) >>= fun v143 => .ret (s_apart, v143, s_q)) >>= fun v144 => .ret ((eT3 eS eD eS) v144)) >>= fun v152 => (((((askM (3 : Int))) >>= fun v145 => .ret [v145]) >>= fun v146 => .ret (s_swaps, v146)) >>= fun v147 => .ret ((eT2 eS (eL eI)) v147)) >>= fun v153 => (((ixM names_ (-(1 : Int))) >>= fun v148 => (ixM names_ (0 : Int)) >>= fun v149 => .ret (s_apart, v148, v149)) >>= fun v150 => .ret ((eT3 eS eS eS) v150)) >>= fun v154 => .ret [v151, v152, ((eT2 eS (eL eN)) (s_swaps, ([] : (List Unit)))), v153, v154]) >>= fun v155 => ((askM (5 : Int))) >>= fun v156 => (ixM v155 v156)) >>= fun bent_v157 => .ret bent_v157) : M D) >>= fun s158 => ((((t_entails_fault one_ other_ s158)) >>= fun v159 => ((t_law_fault one_ other_ s158)) >>= fun v160 => (asBM (dNe v159 v160))) >>= fun kb => if kb then .ret (.back false) else .ret (.go ()))) v161 ()) : M (Fw Unit Bool)) >>= contR (fun s162 => .ret true) (fun r => r)
theorem rf_law_r15 (k : Nat) (count_ : Int) (names_ : (List Str)) (pairs_ : (List (Str × Str))) (orders_ : (List (List (Str × Str)))) (told_ : D) (every_ : (List (List Int))) (same_ : (List (List (Str × Str)))) (one_ : (List (Str × Str))) (other_ : (List (Str × Str))) (says_ : Bool) (back_ : Bool) : Rf (RFn eB) (law_r15 (k + 2) [none, some (.val (eD D.stt)), some (.val (eI count_)), some (.val ((eL eS) names_)), some (.val ((eL (eT2 eS eS)) pairs_)), some (.val ((eL (eL (eT2 eS eS))) orders_)), some (.val (eD told_)), some (.val ((eL (eV eI)) every_)), none, none, some (.val ((eL (eL (eT2 eS eS))) same_)), none, none, some (.val ((eL (eT2 eS eS)) one_)), some (.val ((eL (eT2 eS eS)) other_)), some (.val (eB says_)), some (.val (eB back_)), none, none, none, none, none, none, none, none]) (t_law_r15 k count_ names_ pairs_ orders_ told_ every_ same_ one_ other_ says_ back_) :=
  (s_forget (s_nextR (E := (fun (s : Unit) => [none, some (.val (eD D.stt)), some (.val (eI count_)), some (.val ((eL eS) names_)), some (.val ((eL (eT2 eS eS)) pairs_)), some (.val ((eL (eL (eT2 eS eS))) orders_)), some (.val (eD told_)), some (.val ((eL (eV eI)) every_)), none, none, some (.val ((eL (eL (eT2 eS eS))) same_)), none, none, some (.val ((eL (eT2 eS eS)) one_)), some (.val ((eL (eT2 eS eS)) other_)), some (.val (eB says_)), some (.val (eB back_)), none, none, none, none, none, none, none, none])) (eρ := eB) (f := fun r => r) (fun _ _ => Or.inl rfl) (l_forE (e := eI) (i_rg1 (rfl : _ = M.ret (eI (7 : Int)))) (fun v161 => (rf_onceR (e := eI) (E := (fun (s : Unit) => [none, some (.val (eD D.stt)), some (.val (eI count_)), some (.val ((eL eS) names_)), some (.val ((eL (eT2 eS eS)) pairs_)), some (.val ((eL (eL (eT2 eS eS))) orders_)), some (.val (eD told_)), some (.val ((eL (eV eI)) every_)), none, none, some (.val ((eL (eL (eT2 eS eS))) same_)), none, none, some (.val ((eL (eT2 eS eS)) one_)), some (.val ((eL (eT2 eS eS)) other_)), some (.val (eB says_)), some (.val (eB back_)), none, none, none, none, none, none, none, none])) (eρ := eB) (fun _ _ => rfl) (fun x115 s116 => (s_next (E := (fun (s : D) => [none, some (.val (eD D.stt)), some (.val (eI count_)), some (.val ((eL eS) names_)), some (.val ((eL (eT2 eS eS)) pairs_)), some (.val ((eL (eL (eT2 eS eS))) orders_)), some (.val (eD told_)), some (.val ((eL (eV eI)) every_)), none, none, some (.val ((eL (eL (eT2 eS eS))) same_)), none, some (.val (eI x115)), some (.val ((eL (eT2 eS eS)) one_)), some (.val ((eL (eT2 eS eS)) other_)), some (.val (eB says_)), some (.val (eB back_)), none, none, none, none, none, none, some (.val (eD s)), none])) (s_if (t_E (b_EP (b_PP (rfl : _ = M.ret (eD told_)) (rfl : _ = M.ret (eI (0 : Int))) (ev_id _)) (rfl : _ = M.ret (eS s_swaps)) (fun v117 => (ev_asB _)))) (s_setE (e := eD) (c_call (a_cons (b_PP (rfl : _ = M.ret (eD told_)) (rfl : _ = M.ret (eI (1 : Int))) (ev_id _)) (fun v119 => (a_nil (ev_id _))))) (fun row_v120 => (s_setE (e := eD) (b_EE (r_lst (a_cons (ev_toD (r_tup (a_consP (d := eS s_swaps) (rfl : _ = M.ret (eS s_swaps)) (a_cons (r_slD (rfl : _ = M.ret (eD row_v120)) (po_s (rfl : _ = M.ret (eI (1 : Int)))) po_n) (fun v122 => (a_nil (k_disp (R := Re (eT2 eS eD)) (r := ((s_swaps, v122) : (Str × D))) (p_len (n := 2) (by decide)) rfl))))))) (fun v134 => (a_cons (ev_toD (r_tup (a_consP (d := eS s_swaps) (rfl : _ = M.ret (eS s_swaps)) (a_cons (b_PE (rfl : _ = M.ret (eD row_v120)) (ev_toD (r_lst (a_cons (b_EP (c_call (a_consP (d := eD D.stt) (rfl : _ = M.ret (eD D.stt)) (a_consP (d := eI (4 : Int)) (rfl : _ = M.ret (eI (4 : Int))) (a_nil (r_take _))))) (rfl : _ = M.ret (eI (1 : Int))) (fun v124 => (ev_ret (e := eI) rfl))) (fun v126 => (a_nil (k_disp (R := Re (eL eI)) (r := ([v126] : (List Int))) (p_len (n := 1) (by decide)) rfl)))))) (fun v129 => (ev_id _))) (fun v130 => (a_nil (k_disp (R := Re (eT2 eS eD)) (r := ((s_swaps, v130) : (Str × D))) (p_len (n := 2) (by decide)) rfl))))))) (fun v135 => (a_cons (ev_toD (r_tup (a_consP (d := eS s_swaps) (rfl : _ = M.ret (eS s_swaps)) (a_cons (r_revD (rfl : _ = M.ret (eD row_v120))) (fun v132 => (a_nil (k_disp (R := Re (eT2 eS eD)) (r := ((s_swaps, v132) : (Str × D))) (p_len (n := 2) (by decide)) rfl))))))) (fun v136 => (a_consP (d := eD ((eT3 eS eS eS) (s_apart, s_x, s_y))) (p_tup (ds := [eS s_apart, eS s_x, eS s_y]) (p_cons (rfl : _ = M.ret (eS s_apart)) (p_cons (rfl : _ = M.ret (eS s_x)) (p_cons (rfl : _ = M.ret (eS s_y)) p_nil))) (p_len (n := 3) (by decide))) (a_nil (k_disp (R := Re (eL eD)) (r := ([v134, v135, v136, ((eT3 eS eS eS) (s_apart, s_x, s_y))] : (List D))) (p_len (n := 4) (by decide)) rfl)))))))))) (c_call (a_consP (d := eD D.stt) (rfl : _ = M.ret (eD D.stt)) (a_consP (d := eI (4 : Int)) (rfl : _ = M.ret (eI (4 : Int))) (a_nil (r_take _))))) (fun v137 v138 => (r_ix _ _))) (fun bent_v139 => (e_goN rfl))))) (s_setE (e := eD) (b_EE (r_lst (a_cons (ev_toD (r_tup (a_consP (d := eS s_apart) (rfl : _ = M.ret (eS s_apart)) (a_cons (b_PP (rfl : _ = M.ret (eD told_)) (rfl : _ = M.ret (eI (2 : Int))) (ev_id _)) (fun v140 => (a_cons (b_PP (rfl : _ = M.ret (eD told_)) (rfl : _ = M.ret (eI (1 : Int))) (ev_id _)) (fun v141 => (a_nil (k_disp (R := Re (eT3 eS eD eD)) (r := ((s_apart, v140, v141) : (Str × D × D))) (p_len (n := 3) (by decide)) rfl))))))))) (fun v151 => (a_cons (ev_toD (r_tup (a_consP (d := eS s_apart) (rfl : _ = M.ret (eS s_apart)) (a_cons (b_PP (rfl : _ = M.ret (eD told_)) (rfl : _ = M.ret (eI (1 : Int))) (ev_id _)) (fun v143 => (a_consP (d := eS s_q) (rfl : _ = M.ret (eS s_q)) (a_nil (k_disp (R := Re (eT3 eS eD eS)) (r := ((s_apart, v143, s_q) : (Str × D × Str))) (p_len (n := 3) (by decide)) rfl)))))))) (fun v152 => (a_consP (d := eD ((eT2 eS (eL eN)) (s_swaps, ([] : (List Unit))))) (p_tup (ds := [eS s_swaps, (eL eN) ([] : (List Unit))]) (p_cons (rfl : _ = M.ret (eS s_swaps)) (p_cons (p_lstE (e := eN) (xs := ([] : List Unit)) p_nil (p_len (n := 0) (by decide))) p_nil)) (p_len (n := 2) (by decide))) (a_cons (ev_toD (r_tup (a_consP (d := eS s_swaps) (rfl : _ = M.ret (eS s_swaps)) (a_cons (r_lst (a_cons (c_call (a_consP (d := eD D.stt) (rfl : _ = M.ret (eD D.stt)) (a_consP (d := eI (3 : Int)) (rfl : _ = M.ret (eI (3 : Int))) (a_nil (r_take _))))) (fun v145 => (a_nil (k_disp (R := Re (eL eI)) (r := ([v145] : (List Int))) (p_len (n := 1) (by decide)) rfl))))) (fun v146 => (a_nil (k_disp (R := Re (eT2 eS (eL eI))) (r := ((s_swaps, v146) : (Str × (List Int)))) (p_len (n := 2) (by decide)) rfl))))))) (fun v153 => (a_cons (ev_toD (r_tup (a_consP (d := eS s_apart) (rfl : _ = M.ret (eS s_apart)) (a_cons (b_PP (rfl : _ = M.ret ((eL eS) names_)) (p_neg (rfl : _ = M.ret (eI (1 : Int)))) (r_ix _ _)) (fun v148 => (a_cons (b_PP (rfl : _ = M.ret ((eL eS) names_)) (rfl : _ = M.ret (eI (0 : Int))) (r_ix _ _)) (fun v149 => (a_nil (k_disp (R := Re (eT3 eS eS eS)) (r := ((s_apart, v148, v149) : (Str × Str × Str))) (p_len (n := 3) (by decide)) rfl))))))))) (fun v154 => (a_nil (k_disp (R := Re (eL eD)) (r := ([v151, v152, ((eT2 eS (eL eN)) (s_swaps, ([] : (List Unit)))), v153, v154] : (List D))) (p_len (n := 5) (by decide)) rfl)))))))))))) (c_call (a_consP (d := eD D.stt) (rfl : _ = M.ret (eD D.stt)) (a_consP (d := eI (5 : Int)) (rfl : _ = M.ret (eI (5 : Int))) (a_nil (r_take _))))) (fun v155 v156 => (r_ix _ _))) (fun bent_v157 => (e_goN rfl)))) (fun s158 => (s_iff (t_E (b_EE (c_call (a_consP (d := (eL (eT2 eS eS)) one_) (rfl : _ = M.ret ((eL (eT2 eS eS)) one_)) (a_consP (d := (eL (eT2 eS eS)) other_) (rfl : _ = M.ret ((eL (eT2 eS eS)) other_)) (a_consP (d := eD s158) (rfl : _ = M.ret (eD s158)) (a_nil (rf_entails_fault _ _ _ _)))))) (c_call (a_consP (d := (eL (eT2 eS eS)) one_) (rfl : _ = M.ret ((eL (eT2 eS eS)) one_)) (a_consP (d := (eL (eT2 eS eS)) other_) (rfl : _ = M.ret ((eL (eT2 eS eS)) other_)) (a_consP (d := eD s158) (rfl : _ = M.ret (eD s158)) (a_nil (rf_law_fault _ _ _ _)))))) (fun v159 v160 => (ev_asB _)))) (s_retP (r := false) (x := Fw.back false) (fun _ => ⟨(fun z => nomatch z), rfl⟩) (rfl : _ = M.ret (eB false))) (s_skip (e_goT rfl)))))) v161 ()))) (fun s162 => (s_retP (r := true) (x := true) (fun _ => Or.inl rfl) (rfl : _ = M.ret (eB true))))))
end K79

set_option Elab.async false
set_option linter.all false
set_option maxRecDepth 100000
set_option maxHeartbeats 0
namespace K79
open PySem PySem.Spec L2 DL
def t_law_r14 (k : Nat) (count_ : Int) (names_ : (List Str)) (pairs_ : (List (Str × Str))) (orders_ : (List (List (Str × Str)))) (told_ : D) (every_ : (List (List Int))) (same_ : (List (List (Str × Str)))) (one_ : (List (Str × Str))) (other_ : (List (Str × Str))) (says_ : Bool) (back_ : Bool) : M Bool := (((rgM ((0 : Int) - (1 : Int)) (count_ + (1 : Int))) >>= fun v113 => loopR (fun x93 s94 => ((M.ret (!((decide ((0 : Int) ≤ x93)) && (decide (x93 < (count_ - (1 : Int))))))) >>= fun kb => if kb then .ret true else ((((ixM one_ x93) >>= fun v95 => .ret v95.1) >>= fun v97 => .ret (decide (v97 = s_all))) >>= fun kb => if kb then (((ixM one_ (x93 + (1 : Int))) >>= fun v99 => .ret v99.1) >>= fun v101 => .ret (decide (v101 = s_some))) else .ret false)) >>= fun bad_v103 => ((((t_swapped one_ x93)) >>= fun v111 => (if bad_v103 then (M.ret (none : (Option (List (Str × Str))))) else (((((ixM one_ (x93 + (1 : Int))) >>= fun v104 => (ixM one_ x93) >>= fun v105 => .ret [v104, v105]) >>= fun v107 => (catM (cutD one_ none (some x93)) v107)) >>= fun v108 => (catM v108 (cutD one_ (some (x93 + (2 : Int))) none))) >>= fun v110 => .ret (some v110))) >>= fun v112 => .ret (!decide (v111 = v112))) >>= fun kb => if kb then .ret (.back false) else .ret (.go ()))) v113 ()) : M (Fw Unit Bool)) >>= contR (fun s114 => (t_law_r15 k (count_) (names_) (pairs_) (orders_) (told_) (every_) (same_) (one_) (other_) (says_) (back_))) (fun r => r)
theorem rf_law_r14 (k : Nat) (count_ : Int) (names_ : (List Str)) (pairs_ : (List (Str × Str))) (orders_ : (List (List (Str × Str)))) (told_ : D) (every_ : (List (List Int))) (same_ : (List (List (Str × Str)))) (one_ : (List (Str × Str))) (other_ : (List (Str × Str))) (says_ : Bool) (back_ : Bool) : Rf (RFn eB) (law_r14 (k + 2) [none, some (.val (eD D.stt)), some (.val (eI count_)), some (.val ((eL eS) names_)), some (.val ((eL (eT2 eS eS)) pairs_)), some (.val ((eL (eL (eT2 eS eS))) orders_)), some (.val (eD told_)), some (.val ((eL (eV eI)) every_)), none, none, some (.val ((eL (eL (eT2 eS eS))) same_)), none, none, some (.val ((eL (eT2 eS eS)) one_)), some (.val ((eL (eT2 eS eS)) other_)), some (.val (eB says_)), some (.val (eB back_)), none, none, none, none, none, none, none, none]) (t_law_r14 k count_ names_ pairs_ orders_ told_ every_ same_ one_ other_ says_ back_) :=
  (s_forget (s_nextR (E := (fun (s : Unit) => [none, some (.val (eD D.stt)), some (.val (eI count_)), some (.val ((eL eS) names_)), some (.val ((eL (eT2 eS eS)) pairs_)), some (.val ((eL (eL (eT2 eS eS))) orders_)), some (.val (eD told_)), some (.val ((eL (eV eI)) every_)), none, none, some (.val ((eL (eL (eT2 eS eS))) same_)), none, none, some (.val ((eL (eT2 eS eS)) one_)), some (.val ((eL (eT2 eS eS)) other_)), some (.val (eB says_)), some (.val (eB back_)), none, none, none, none, none, none, none, none])) (eρ := eB) (f := fun r => r) (fun _ _ => Or.inl rfl) (l_forE (e := eI) (i_rg2 (p_bin (rfl : _ = M.ret (eI (0 : Int))) (rfl : _ = M.ret (eI (1 : Int))) rfl) (p_bin (rfl : _ = M.ret (eI count_)) (rfl : _ = M.ret (eI (1 : Int))) rfl)) (fun v113 => (rf_loopR (e := eI) (E := (fun (s : Unit) => [none, some (.val (eD D.stt)), some (.val (eI count_)), some (.val ((eL eS) names_)), some (.val ((eL (eT2 eS eS)) pairs_)), some (.val ((eL (eL (eT2 eS eS))) orders_)), some (.val (eD told_)), some (.val ((eL (eV eI)) every_)), none, none, some (.val ((eL (eL (eT2 eS eS))) same_)), none, none, some (.val ((eL (eT2 eS eS)) one_)), some (.val ((eL (eT2 eS eS)) other_)), some (.val (eB says_)), some (.val (eB back_)), none, none, none, none, none, none, none, none])) (eρ := eB) (fun _ _ => rfl) (fun x93 s94 => (s_setE (e := eB) (r_orV (ev_ret (e := eB) (p_notV (p_chain (rfl : _ = M.ret (eI (0 : Int))) (rfl : _ = M.ret (eI x93)) (p_bin (rfl : _ = M.ret (eI count_)) (rfl : _ = M.ret (eI (1 : Int))) rfl) rfl rfl) rfl)) (r_andV (b_EP (b_EP (b_PP (rfl : _ = M.ret ((eL (eT2 eS eS)) one_)) (rfl : _ = M.ret (eI x93)) (r_ix _ _)) (rfl : _ = M.ret (eI (0 : Int))) (fun v95 => (ev_ret (e := eS) rfl))) (rfl : _ = M.ret (eS s_all)) (fun v97 => (ev_ret (e := eB) (o_eqE cS (by decide) _ _)))) (b_EP (b_EP (b_PP (rfl : _ = M.ret ((eL (eT2 eS eS)) one_)) (p_bin (rfl : _ = M.ret (eI x93)) (rfl : _ = M.ret (eI (1 : Int))) rfl) (r_ix _ _)) (rfl : _ = M.ret (eI (0 : Int))) (fun v99 => (ev_ret (e := eS) rfl))) (rfl : _ = M.ret (eS s_some)) (fun v101 => (ev_ret (e := eB) (o_eqE cS (by decide) _ _)))))) (fun bad_v103 => (s_iff (t_E (b_EE (c_call (a_consP (d := (eL (eT2 eS eS)) one_) (rfl : _ = M.ret ((eL (eT2 eS eS)) one_)) (a_consP (d := eI x93) (rfl : _ = M.ret (eI x93)) (a_nil (rf_swapped _ _ _))))) (r_ifEP (p_tru (rfl : _ = M.ret (eB bad_v103)) rfl) (ev_ret (e := (eO (eL (eT2 eS eS)))) (rfl : _ = M.ret (eN ()))) (ev_some (b_EP (b_PE (p_sl (rfl : _ = M.ret ((eL (eT2 eS eS)) one_)) po_n (po_s (rfl : _ = M.ret (eI x93))) (o_slL _ _ _)) (r_lst (a_cons (b_PP (rfl : _ = M.ret ((eL (eT2 eS eS)) one_)) (p_bin (rfl : _ = M.ret (eI x93)) (rfl : _ = M.ret (eI (1 : Int))) rfl) (r_ix _ _)) (fun v104 => (a_cons (b_PP (rfl : _ = M.ret ((eL (eT2 eS eS)) one_)) (rfl : _ = M.ret (eI x93)) (r_ix _ _)) (fun v105 => (a_nil (k_disp (R := Re (eL (eT2 eS eS))) (r := ([v104, v105] : (List (Str × Str)))) (p_len (n := 2) (by decide)) rfl))))))) (fun v107 => (r_cat _ _))) (p_sl (rfl : _ = M.ret ((eL (eT2 eS eS)) one_)) (po_s (p_bin (rfl : _ = M.ret (eI x93)) (rfl : _ = M.ret (eI (2 : Int))) rfl)) po_n (o_slL _ _ _)) (fun v108 => (r_cat _ _))))) (fun v111 v112 => (ev_ret (e := eB) (o_neE (cO (cL (cT2 cS cS)) nnL) (by decide) _ _))))) (s_retP (r := false) (x := Fw.back false) (fun _ => ⟨(fun z => nomatch z), rfl⟩) (rfl : _ = M.ret (eB false))) (s_skip (e_goT rfl)))))) v113 ()))) (fun s114 => (rf_law_r15 k _ _ _ _ _ _ _ _ _ _ _))))
end K79

set_option Elab.async false
set_option linter.all false
set_option maxRecDepth 100000
set_option maxHeartbeats 0
namespace K79
open PySem PySem.Spec L2 DL
def t_law_r13 (k : Nat) (count_ : Int) (names_ : (List Str)) (pairs_ : (List (Str × Str))) (orders_ : (List (List (Str × Str)))) (told_ : D) (every_ : (List (List Int))) (same_ : (List (List (Str × Str)))) (one_ : (List (Str × Str))) (other_ : (List (Str × Str))) (says_ : Bool) (back_ : Bool) : M Bool := (((((t_plain_form one_)) >>= fun v85 => .ret (!memT v85 same_)) >>= fun kb => if kb then .ret true else ((((lcM (fun x87 => (((t_plain_form x87)) >>= fun v88 => ((t_plain_form one_)) >>= fun v89 => .ret (!decide (v88 = v89)))) (fun x87 => (M.ret x87))) same_) >>= fun v90 => .ret ((v90.length : Nat) : Int)) >>= fun v91 => .ret (decide ((0 : Int) < v91)))) >>= fun kb => if kb then .ret false else (t_law_r14 k (count_) (names_) (pairs_) (orders_) (told_) (every_) (same_) (one_) (other_) (says_) (back_)))
theorem rf_law_r13 (k : Nat) (count_ : Int) (names_ : (List Str)) (pairs_ : (List (Str × Str))) (orders_ : (List (List (Str × Str)))) (told_ : D) (every_ : (List (List Int))) (same_ : (List (List (Str × Str)))) (one_ : (List (Str × Str))) (other_ : (List (Str × Str))) (says_ : Bool) (back_ : Bool) : Rf (RFn eB) (law_r13 (k + 2) [none, some (.val (eD D.stt)), some (.val (eI count_)), some (.val ((eL eS) names_)), some (.val ((eL (eT2 eS eS)) pairs_)), some (.val ((eL (eL (eT2 eS eS))) orders_)), some (.val (eD told_)), some (.val ((eL (eV eI)) every_)), none, none, some (.val ((eL (eL (eT2 eS eS))) same_)), none, none, some (.val ((eL (eT2 eS eS)) one_)), some (.val ((eL (eT2 eS eS)) other_)), some (.val (eB says_)), some (.val (eB back_)), none, none, none, none, none, none, none, none]) (t_law_r13 k count_ names_ pairs_ orders_ told_ every_ same_ one_ other_ says_ back_) :=
  (s_iff (r_or (t_E (b_EP (c_call (a_consP (d := (eL (eT2 eS eS)) one_) (rfl : _ = M.ret ((eL (eT2 eS eS)) one_)) (a_nil (rf_plain_form _ _)))) (rfl : _ = M.ret ((eL (eL (eT2 eS eS))) same_)) (fun v85 => (ev_ret (e := eB) (o_mnotInL (cL (cT2 cS cS)) (by decide) _ _))))) (t_E (b_EP (c_call (a_cons (r_lc rfl (i_L (rfl : _ = M.ret ((eL (eL (eT2 eS eS))) same_))) (fun _ => rfl) (fun x87 => (t_E (b_EE (c_call (a_consP (d := (eL (eT2 eS eS)) x87) (rfl : _ = M.ret ((eL (eT2 eS eS)) x87)) (a_nil (rf_plain_form _ _)))) (c_call (a_consP (d := (eL (eT2 eS eS)) one_) (rfl : _ = M.ret ((eL (eT2 eS eS)) one_)) (a_nil (rf_plain_form _ _)))) (fun v88 v89 => (ev_ret (e := eB) (o_neE (cL (cT2 cS cS)) (by decide) _ _)))))) (fun x87 => (ev_ret (e := (eL (eT2 eS eS))) (rfl : _ = M.ret ((eL (eT2 eS eS)) x87))))) (fun v90 => (a_nil (ev_ret (e := eI) (o_lenL _)))))) (rfl : _ = M.ret (eI (0 : Int))) (fun v91 => (ev_ret (e := eB) rfl))))) (s_retP (r := false) (x := false) (fun _ => ⟨(fun z => nomatch z), Or.inl rfl⟩) (rfl : _ = M.ret (eB false))) (s_skip (rf_law_r14 k _ _ _ _ _ _ _ _ _ _ _)))
end K79

set_option Elab.async false
set_option linter.all false
set_option maxRecDepth 100000
set_option maxHeartbeats 0
namespace K79
open PySem PySem.Spec L2 DL
def t_law_r12 (k : Nat) (count_ : Int) (names_ : (List Str)) (pairs_ : (List (Str × Str))) (orders_ : (List (List (Str × Str)))) (told_ : D) (every_ : (List (List Int))) (one_ : (List (Str × Str))) (other_ : (List (Str × Str))) (says_ : Bool) (back_ : Bool) : M Bool := ((lcM (fun x82 => (((t_are_alike one_ x82)) >>= fun v83 => .ret v83)) (fun x82 => (M.ret x82))) orders_) >>= fun same_v84 => (t_law_r13 k (count_) (names_) (pairs_) (orders_) (told_) (every_) (same_v84) (one_) (other_) (says_) (back_))
theorem rf_law_r12 (k : Nat) (count_ : Int) (names_ : (List Str)) (pairs_ : (List (Str × Str))) (orders_ : (List (List (Str × Str)))) (told_ : D) (every_ : (List (List Int))) (one_ : (List (Str × Str))) (other_ : (List (Str × Str))) (says_ : Bool) (back_ : Bool) : Rf (RFn eB) (law_r12 (k + 2) [none, some (.val (eD D.stt)), some (.val (eI count_)), some (.val ((eL eS) names_)), some (.val ((eL (eT2 eS eS)) pairs_)), some (.val ((eL (eL (eT2 eS eS))) orders_)), some (.val (eD told_)), some (.val ((eL (eV eI)) every_)), none, none, none, none, none, some (.val ((eL (eT2 eS eS)) one_)), some (.val ((eL (eT2 eS eS)) other_)), some (.val (eB says_)), some (.val (eB back_)), none, none, none, none, none, none, none, none]) (t_law_r12 k count_ names_ pairs_ orders_ told_ every_ one_ other_ says_ back_) :=
  (s_setE (e := (eL (eL (eT2 eS eS)))) (r_lc rfl (i_L (rfl : _ = M.ret ((eL (eL (eT2 eS eS))) orders_))) (fun _ => rfl) (fun x82 => (r_truE (c_call (a_consP (d := (eL (eT2 eS eS)) one_) (rfl : _ = M.ret ((eL (eT2 eS eS)) one_)) (a_consP (d := (eL (eT2 eS eS)) x82) (rfl : _ = M.ret ((eL (eT2 eS eS)) x82)) (a_nil (rf_are_alike _ _ _))))) (fun v83 => rfl))) (fun x82 => (ev_ret (e := (eL (eT2 eS eS))) (rfl : _ = M.ret ((eL (eT2 eS eS)) x82))))) (fun same_v84 => (rf_law_r13 k _ _ _ _ _ _ _ _ _ _ _)))
end K79

set_option Elab.async false
set_option linter.all false
set_option maxRecDepth 100000
set_option maxHeartbeats 0
namespace K79
open PySem PySem.Spec L2 DL
def t_law_r11 (k : Nat) (count_ : Int) (names_ : (List Str)) (pairs_ : (List (Str × Str))) (orders_ : (List (List (Str × Str)))) (told_ : D) (every_ : (List (List Int))) (one_ : (List (Str × Str))) (other_ : (List (Str × Str))) (says_ : Bool) (back_ : Bool) : M Bool := ((((dIx told_ (eI (0 : Int))) >>= fun v62 => (asBM (dEq v62 (eS s_apart)))) >>= fun kb => if kb then ((dSl told_ (some (1 : Int)) none) >>= fun v65 => (t_rows_apart names_ v65)) >>= fun rows_v66 => (((((sortVM ltI every_)) >>= fun v76 => (lcM (fun x67 => (((((dIx told_ (eI (1 : Int))) >>= asSD) >>= fun v68 => indexM names_ v68) >>= fun v70 => (ixM x67 v70)) >>= fun v74 => ((((dIx told_ (eI (2 : Int))) >>= asSD) >>= fun v71 => indexM names_ v71) >>= fun v73 => (ixM x67 v73)) >>= fun v75 => .ret (decide (v74 = v75)))) (fun x67 => (M.ret x67))) v76) >>= fun v78 => .ret (!decide (rows_v66 = v78))) >>= fun kb => if kb then .ret (.back false) else ((((((t_holds (k + 2) one_ names_ (2 : Int) rows_v66)) >>= fun v79 => .ret v79) >>= fun kb => .ret (!kb)) >>= fun kb => if kb then .ret true else (((t_holds (k + 2) other_ names_ (2 : Int) rows_v66)) >>= fun v80 => .ret v80)) >>= fun kb => if kb then .ret (.back false) else .ret (.go ()))) else .ret (.go ())) : M (Fw Unit Bool)) >>= contR (fun s81 => (t_law_r12 k (count_) (names_) (pairs_) (orders_) (told_) (every_) (one_) (other_) (says_) (back_))) (fun r => r)
theorem rf_law_r11 (k : Nat) (count_ : Int) (names_ : (List Str)) (pairs_ : (List (Str × Str))) (orders_ : (List (List (Str × Str)))) (told_ : D) (every_ : (List (List Int))) (one_ : (List (Str × Str))) (other_ : (List (Str × Str))) (says_ : Bool) (back_ : Bool) : Rf (RFn eB) (law_r11 (k + 2) [none, some (.val (eD D.stt)), some (.val (eI count_)), some (.val ((eL eS) names_)), some (.val ((eL (eT2 eS eS)) pairs_)), some (.val ((eL (eL (eT2 eS eS))) orders_)), some (.val (eD told_)), some (.val ((eL (eV eI)) every_)), none, none, none, none, none, some (.val ((eL (eT2 eS eS)) one_)), some (.val ((eL (eT2 eS eS)) other_)), some (.val (eB says_)), some (.val (eB back_)), none, none, none, none, none, none, none, none]) (t_law_r11 k count_ names_ pairs_ orders_ told_ every_ one_ other_ says_ back_) :=
  (s_nextR (E := (fun (s : Unit) => [none, some (.val (eD D.stt)), some (.val (eI count_)), some (.val ((eL eS) names_)), some (.val ((eL (eT2 eS eS)) pairs_)), some (.val ((eL (eL (eT2 eS eS))) orders_)), some (.val (eD told_)), some (.val ((eL (eV eI)) every_)), none, none, none, none, none, some (.val ((eL (eT2 eS eS)) one_)), some (.val ((eL (eT2 eS eS)) other_)), some (.val (eB says_)), some (.val (eB back_)), none, none, none, none, none, none, none, none])) (eρ := eB) (f := fun r => r) (fun _ _ => Or.inl rfl) (s_if (t_E (b_EP (b_PP (rfl : _ = M.ret (eD told_)) (rfl : _ = M.ret (eI (0 : Int))) (ev_id _)) (rfl : _ = M.ret (eS s_apart)) (fun v62 => (ev_asB _)))) (s_setE (e := (eL (eV eI))) (c_call (a_consP (d := (eL eS) names_) (rfl : _ = M.ret ((eL eS) names_)) (a_cons (r_slD (rfl : _ = M.ret (eD told_)) (po_s (rfl : _ = M.ret (eI (1 : Int)))) po_n) (fun v65 => (a_nil (rf_rows_apart _ _ _)))))) (fun rows_v66 => (s_iff (t_E (b_PE (rfl : _ = M.ret ((eL (eV eI)) rows_v66)) (r_lcE rfl (i_LE (c_call (a_consP (d := (eL (eV eI)) every_) (rfl : _ = M.ret ((eL (eV eI)) every_)) (a_nil (r_sortedV cI qI _))))) (fun _ => rfl) (fun x67 => (t_E (b_EE (b_PE (rfl : _ = M.ret ((eV eI) x67)) (r_indexE cS (by decide) (rfl : _ = M.ret ((eL eS) names_)) (q_E q_S (b_PP (rfl : _ = M.ret (eD told_)) (rfl : _ = M.ret (eI (1 : Int))) (ev_id _)))) (fun v70 => (r_ixV _ _))) (b_PE (rfl : _ = M.ret ((eV eI) x67)) (r_indexE cS (by decide) (rfl : _ = M.ret ((eL eS) names_)) (q_E q_S (b_PP (rfl : _ = M.ret (eD told_)) (rfl : _ = M.ret (eI (2 : Int))) (ev_id _)))) (fun v73 => (r_ixV _ _))) (fun v74 v75 => (ev_ret (e := eB) (o_eqE cI (by decide) _ _)))))) (fun x67 => (ev_ret (e := (eV eI)) (rfl : _ = M.ret ((eV eI) x67))))) (fun v78 => (ev_ret (e := eB) (o_neE (cL (cV cI)) (by decide) _ _))))) (s_retP (r := false) (x := Fw.back false) (fun _ => ⟨(fun z => nomatch z), rfl⟩) (rfl : _ = M.ret (eB false))) (s_skip (s_iff (r_or (r_not (r_truE (c_call (a_consP (d := (eL (eT2 eS eS)) one_) (rfl : _ = M.ret ((eL (eT2 eS eS)) one_)) (a_consP (d := (eL eS) names_) (rfl : _ = M.ret ((eL eS) names_)) (a_consP (d := eI (2 : Int)) (rfl : _ = M.ret (eI (2 : Int))) (a_consP (d := (eL (eV eI)) rows_v66) (rfl : _ = M.ret ((eL (eV eI)) rows_v66)) (a_nil (rf_holds _ _ _ _ _))))))) (fun v79 => rfl))) (r_truE (c_call (a_consP (d := (eL (eT2 eS eS)) other_) (rfl : _ = M.ret ((eL (eT2 eS eS)) other_)) (a_consP (d := (eL eS) names_) (rfl : _ = M.ret ((eL eS) names_)) (a_consP (d := eI (2 : Int)) (rfl : _ = M.ret (eI (2 : Int))) (a_consP (d := (eL (eV eI)) rows_v66) (rfl : _ = M.ret ((eL (eV eI)) rows_v66)) (a_nil (rf_holds _ _ _ _ _))))))) (fun v80 => rfl))) (s_retP (r := false) (x := Fw.back false) (fun _ => ⟨(fun z => nomatch z), rfl⟩) (rfl : _ = M.ret (eB false))) (s_skip (e_goL rfl))))))) (e_goL rfl)) (fun s81 => (rf_law_r12 k _ _ _ _ _ _ _ _ _ _)))
end K79

set_option Elab.async false
set_option linter.all false
set_option maxRecDepth 100000
set_option maxHeartbeats 0
namespace K79
open PySem PySem.Spec L2 DL
def t_law_r10 (k : Nat) (count_ : Int) (names_ : (List Str)) (pairs_ : (List (Str × Str))) (orders_ : (List (List (Str × Str)))) (told_ : D) (every_ : (List (List Int))) (one_ : (List (Str × Str))) (other_ : (List (Str × Str))) (says_ : Bool) (back_ : Bool) : M Bool := ((((dIx told_ (eI (0 : Int))) >>= fun v54 => (asBM (dNe v54 (eS (if says_ then s_swaps else s_apart))))) >>= fun kb => if kb then .ret true else ((((t_law_fault one_ other_ told_)) >>= fun v56 => .ret (!isNonD v56)) >>= fun kb => if kb then .ret true else ((((t_entails_fault one_ other_ told_)) >>= fun v58 => .ret (!isNonD v58)) >>= fun kb => if kb then .ret true else (((t_are_alike one_ other_)) >>= fun v60 => .ret (!(v60 == (says_ && back_))))))) >>= fun kb => if kb then .ret false else (t_law_r11 k (count_) (names_) (pairs_) (orders_) (told_) (every_) (one_) (other_) (says_) (back_)))
theorem rf_law_r10 (k : Nat) (count_ : Int) (names_ : (List Str)) (pairs_ : (List (Str × Str))) (orders_ : (List (List (Str × Str)))) (told_ : D) (every_ : (List (List Int))) (one_ : (List (Str × Str))) (other_ : (List (Str × Str))) (says_ : Bool) (back_ : Bool) : Rf (RFn eB) (law_r10 (k + 2) [none, some (.val (eD D.stt)), some (.val (eI count_)), some (.val ((eL eS) names_)), some (.val ((eL (eT2 eS eS)) pairs_)), some (.val ((eL (eL (eT2 eS eS))) orders_)), some (.val (eD told_)), some (.val ((eL (eV eI)) every_)), none, none, none, none, none, some (.val ((eL (eT2 eS eS)) one_)), some (.val ((eL (eT2 eS eS)) other_)), some (.val (eB says_)), some (.val (eB back_)), none, none, none, none, none, none, none, none]) (t_law_r10 k count_ names_ pairs_ orders_ told_ every_ one_ other_ says_ back_) :=
  (s_iff (r_or (t_E (b_EP (b_PP (rfl : _ = M.ret (eD told_)) (rfl : _ = M.ret (eI (0 : Int))) (ev_id _)) (p_ifE (e := eS) (p_tru (rfl : _ = M.ret (eB says_)) rfl) (rfl : _ = M.ret (eS s_swaps)) (rfl : _ = M.ret (eS s_apart))) (fun v54 => (ev_asB _)))) (r_or (t_E (b_EP (c_call (a_consP (d := (eL (eT2 eS eS)) one_) (rfl : _ = M.ret ((eL (eT2 eS eS)) one_)) (a_consP (d := (eL (eT2 eS eS)) other_) (rfl : _ = M.ret ((eL (eT2 eS eS)) other_)) (a_consP (d := eD told_) (rfl : _ = M.ret (eD told_)) (a_nil (rf_law_fault _ _ _ _)))))) (rfl : _ = M.ret (eN ())) (fun v56 => (ev_ret (e := eB) (o_isNotD _))))) (r_or (t_E (b_EP (c_call (a_consP (d := (eL (eT2 eS eS)) one_) (rfl : _ = M.ret ((eL (eT2 eS eS)) one_)) (a_consP (d := (eL (eT2 eS eS)) other_) (rfl : _ = M.ret ((eL (eT2 eS eS)) other_)) (a_consP (d := eD told_) (rfl : _ = M.ret (eD told_)) (a_nil (rf_entails_fault _ _ _ _)))))) (rfl : _ = M.ret (eN ())) (fun v58 => (ev_ret (e := eB) (o_isNotD _))))) (t_E (b_EP (c_call (a_consP (d := (eL (eT2 eS eS)) one_) (rfl : _ = M.ret ((eL (eT2 eS eS)) one_)) (a_consP (d := (eL (eT2 eS eS)) other_) (rfl : _ = M.ret ((eL (eT2 eS eS)) other_)) (a_nil (rf_are_alike _ _ _))))) (p_andV (rfl : _ = M.ret (eB says_)) (rfl : _ = M.ret (eB back_))) (fun v60 => (ev_ret (e := eB) rfl))))))) (s_retP (r := false) (x := false) (fun _ => ⟨(fun z => nomatch z), Or.inl rfl⟩) (rfl : _ = M.ret (eB false))) (s_skip (rf_law_r11 k _ _ _ _ _ _ _ _ _ _)))
end K79

set_option Elab.async false
set_option linter.all false
set_option maxRecDepth 100000
set_option maxHeartbeats 0
namespace K79
open PySem PySem.Spec L2 DL
def t_law_r9 (k : Nat) (count_ : Int) (names_ : (List Str)) (pairs_ : (List (Str × Str))) (orders_ : (List (List (Str × Str)))) (told_ : D) (every_ : (List (List Int))) (one_ : (List (Str × Str))) (other_ : (List (Str × Str))) (says_ : Bool) (back_ : Bool) : M Bool := ((((shlM (1 : Int) ((every_.length : Nat) : Int)) >>= fun v30 => rgM 0 v30) >>= fun v52 => loopR (fun x31 s32 => ((rgM 0 ((every_.length : Nat) : Int)) >>= fun v44 => (lcM (fun x33 => ((((shlM (1 : Int) x33) >>= fun v35 => (fdivM x31 v35)) >>= fun v40 => (((shlM (2 : Int) x33) >>= fun v37 => (fdivM x31 v37)) >>= fun v38 => (mulM v38 (2 : Int))) >>= fun v41 => .ret (v40 - v41)) >>= fun v42 => .ret (decide (v42 = (1 : Int))))) (fun x33 => (ixM every_ x33))) v44) >>= fun rows_v45 => ((t_law_holds (k + 2) one_ names_ (2 : Int) rows_v45 ([] : (List (Str × Int))))) >>= fun first_v46 => ((t_law_holds (k + 2) other_ names_ (2 : Int) rows_v45 ([] : (List (Str × Int))))) >>= fun second_v47 => (M.ret (s32.1 && (second_v47 || (!first_v46)))) >>= fun says_v48 => (M.ret (s32.2 && (first_v46 || (!second_v47)))) >>= fun back_v49 => ((if (decide (x31 < (3 : Int))) then (((t_holds (k + 2) one_ names_ (2 : Int) rows_v45)) >>= fun v50 => .ret (!(v50 == first_v46))) else .ret false) >>= fun kb => if kb then .ret (.back false) else .ret (.go (says_v48, back_v49)))) v52 (says_, back_)) : M (Fw (Bool × Bool) Bool)) >>= contR (fun s53 => (t_law_r10 k (count_) (names_) (pairs_) (orders_) (told_) (every_) (one_) (other_) (s53.1) (s53.2))) (fun r => r)
theorem rf_law_r9 (k : Nat) (count_ : Int) (names_ : (List Str)) (pairs_ : (List (Str × Str))) (orders_ : (List (List (Str × Str)))) (told_ : D) (every_ : (List (List Int))) (one_ : (List (Str × Str))) (other_ : (List (Str × Str))) (says_ : Bool) (back_ : Bool) : Rf (RFn eB) (law_r9 (k + 2) [none, some (.val (eD D.stt)), some (.val (eI count_)), some (.val ((eL eS) names_)), some (.val ((eL (eT2 eS eS)) pairs_)), some (.val ((eL (eL (eT2 eS eS))) orders_)), some (.val (eD told_)), some (.val ((eL (eV eI)) every_)), none, none, none, none, none, some (.val ((eL (eT2 eS eS)) one_)), some (.val ((eL (eT2 eS eS)) other_)), some (.val (eB says_)), some (.val (eB back_)), none, none, none, none, none, none, none, none]) (t_law_r9 k count_ names_ pairs_ orders_ told_ every_ one_ other_ says_ back_) :=
  (s_forget (s_nextR (E := (fun (s : (Bool × Bool)) => [none, some (.val (eD D.stt)), some (.val (eI count_)), some (.val ((eL eS) names_)), some (.val ((eL (eT2 eS eS)) pairs_)), some (.val ((eL (eL (eT2 eS eS))) orders_)), some (.val (eD told_)), some (.val ((eL (eV eI)) every_)), none, none, none, none, none, some (.val ((eL (eT2 eS eS)) one_)), some (.val ((eL (eT2 eS eS)) other_)), some (.val (eB s.1)), some (.val (eB s.2)), none, none, none, none, none, none, none, none])) (eρ := eB) (f := fun r => r) (fun _ _ => Or.inl rfl) (l_forE (e := eI) (i_rg1E (b_PP (rfl : _ = M.ret (eI (1 : Int))) (p_call (p_cons (rfl : _ = M.ret ((eL (eV eI)) every_)) p_nil) (o_lenL _)) (r_shl _ _))) (fun v52 => (rf_loopR (e := eI) (E := (fun (s : (Bool × Bool)) => [none, some (.val (eD D.stt)), some (.val (eI count_)), some (.val ((eL eS) names_)), some (.val ((eL (eT2 eS eS)) pairs_)), some (.val ((eL (eL (eT2 eS eS))) orders_)), some (.val (eD told_)), some (.val ((eL (eV eI)) every_)), none, none, none, none, none, some (.val ((eL (eT2 eS eS)) one_)), some (.val ((eL (eT2 eS eS)) other_)), some (.val (eB s.1)), some (.val (eB s.2)), none, none, none, none, none, none, none, none])) (eρ := eB) (fun _ _ => rfl) (fun x31 s32 => (s_setE (e := (eL (eV eI))) (r_lcE rfl (i_rg1 (p_call (p_cons (rfl : _ = M.ret ((eL (eV eI)) every_)) p_nil) (o_lenL _))) (fun _ => rfl) (fun x33 => (t_E (b_EP (b_EE (b_PE (rfl : _ = M.ret (eI x31)) (b_PP (rfl : _ = M.ret (eI (1 : Int))) (rfl : _ = M.ret (eI x33)) (r_shl _ _)) (fun v35 => (r_fdiv _ _))) (b_EP (b_PE (rfl : _ = M.ret (eI x31)) (b_PP (rfl : _ = M.ret (eI (2 : Int))) (rfl : _ = M.ret (eI x33)) (r_shl _ _)) (fun v37 => (r_fdiv _ _))) (rfl : _ = M.ret (eI (2 : Int))) (fun v38 => (r_mul _ _))) (fun v40 v41 => (ev_ret (e := eI) rfl))) (rfl : _ = M.ret (eI (1 : Int))) (fun v42 => (ev_ret (e := eB) (o_eqE cI (by decide) _ _)))))) (fun x33 => (b_PP (rfl : _ = M.ret ((eL (eV eI)) every_)) (rfl : _ = M.ret (eI x33)) (r_ix _ _)))) (fun rows_v45 => (s_parK (a_cons (e := eB) (c_call (a_consP (d := (eL (eT2 eS eS)) one_) (rfl : _ = M.ret ((eL (eT2 eS eS)) one_)) (a_consP (d := (eL eS) names_) (rfl : _ = M.ret ((eL eS) names_)) (a_consP (d := eI (2 : Int)) (rfl : _ = M.ret (eI (2 : Int))) (a_consP (d := (eL (eV eI)) rows_v45) (rfl : _ = M.ret ((eL (eV eI)) rows_v45)) (a_consP (d := (eL (eT2 eS eI)) ([] : (List (Str × Int)))) (p_lstE (e := (eT2 eS eI)) (xs := ([] : List (Str × Int))) p_nil (p_len (n := 0) (by decide))) (a_nil (rf_law_holds _ _ _ _ _ _)))))))) (fun first_v46 => (a_cons (e := eB) (c_call (a_consP (d := (eL (eT2 eS eS)) other_) (rfl : _ = M.ret ((eL (eT2 eS eS)) other_)) (a_consP (d := (eL eS) names_) (rfl : _ = M.ret ((eL eS) names_)) (a_consP (d := eI (2 : Int)) (rfl : _ = M.ret (eI (2 : Int))) (a_consP (d := (eL (eV eI)) rows_v45) (rfl : _ = M.ret ((eL (eV eI)) rows_v45)) (a_consP (d := (eL (eT2 eS eI)) ([] : (List (Str × Int)))) (p_lstE (e := (eT2 eS eI)) (xs := ([] : List (Str × Int))) p_nil (p_len (n := 0) (by decide))) (a_nil (rf_law_holds _ _ _ _ _ _)))))))) (fun second_v47 => (a_nil (k_par (s_parK (a_cons (e := eB) (ev_ret (e := eB) (p_andV (rfl : _ = M.ret (eB s32.1)) (p_orV (rfl : _ = M.ret (eB second_v47)) (p_notV (rfl : _ = M.ret (eB first_v46)) rfl)))) (fun says_v48 => (a_cons (e := eB) (ev_ret (e := eB) (p_andV (rfl : _ = M.ret (eB s32.2)) (p_orV (rfl : _ = M.ret (eB first_v46)) (p_notV (rfl : _ = M.ret (eB second_v47)) rfl)))) (fun back_v49 => (a_nil (k_par (s_iff (r_andP (p_binT (rfl : _ = M.ret (eI x31)) (rfl : _ = M.ret (eI (3 : Int))) rfl) (t_E (b_EP (c_call (a_consP (d := (eL (eT2 eS eS)) one_) (rfl : _ = M.ret ((eL (eT2 eS eS)) one_)) (a_consP (d := (eL eS) names_) (rfl : _ = M.ret ((eL eS) names_)) (a_consP (d := eI (2 : Int)) (rfl : _ = M.ret (eI (2 : Int))) (a_consP (d := (eL (eV eI)) rows_v45) (rfl : _ = M.ret ((eL (eV eI)) rows_v45)) (a_nil (rf_holds _ _ _ _ _))))))) (rfl : _ = M.ret (eB first_v46)) (fun v50 => (ev_ret (e := eB) rfl))))) (s_retP (r := false) (x := Fw.back false) (fun _ => ⟨(fun z => nomatch z), rfl⟩) (rfl : _ = M.ret (eB false))) (s_skip (e_goT rfl)))))))))))))))))))) v52 (says_, back_)))) (fun s53 => (rf_law_r10 k _ _ _ _ _ _ _ _ _ _))))
end K79

set_option Elab.async false
set_option linter.all false
set_option maxRecDepth 100000
set_option maxHeartbeats 0
namespace K79
open PySem PySem.Spec L2 DL
def t_law_r5 (k : Nat) (count_ : Int) (names_ : (List Str)) (pairs_ : (List (Str × Str))) (orders_ : (List (List (Str × Str)))) (one_ : (List (Str × Str))) (other_ : (List (Str × Str))) : M Bool := ((t_entails one_ other_)) >>= fun told_v18 => (M.ret [([] : (List Int))]) >>= fun every_v19 => ((loopM (fun x20 s21 => (((lcM (fun x22 => (M.ret true)) (fun x22 => (catM x22 [(0 : Int)]))) s21) >>= fun v24 => ((lcM (fun x23 => (M.ret true)) (fun x23 => (catM x23 [(1 : Int)]))) s21) >>= fun v25 => (catM v24 v25)) >>= fun every_v26 => .ret every_v26) names_ every_v19) : M (List (List Int))) >>= fun s28 => (M.ret (true, true)) >>= fun u29 => (t_law_r9 k (count_) (names_) (pairs_) (orders_) (told_v18) (s28) (one_) (other_) (u29.1) (u29.2))
theorem rf_law_r5 (k : Nat) (count_ : Int) (names_ : (List Str)) (pairs_ : (List (Str × Str))) (orders_ : (List (List (Str × Str)))) (one_ : (List (Str × Str))) (other_ : (List (Str × Str))) : Rf (RFn eB) (law_r5 (k + 2) [none, some (.val (eD D.stt)), some (.val (eI count_)), some (.val ((eL eS) names_)), some (.val ((eL (eT2 eS eS)) pairs_)), some (.val ((eL (eL (eT2 eS eS))) orders_)), none, none, none, none, none, none, none, some (.val ((eL (eT2 eS eS)) one_)), some (.val ((eL (eT2 eS eS)) other_)), none, none, none, none, none, none, none, none, none, none]) (t_law_r5 k count_ names_ pairs_ orders_ one_ other_) :=
  (s_setE (e := eD) (c_call (a_consP (d := (eL (eT2 eS eS)) one_) (rfl : _ = M.ret ((eL (eT2 eS eS)) one_)) (a_consP (d := (eL (eT2 eS eS)) other_) (rfl : _ = M.ret ((eL (eT2 eS eS)) other_)) (a_nil (rf_entails _ _ _))))) (fun told_v18 => (s_setE (e := (eL (eV eI))) (ev_ret (e := (eL (eV eI))) (p_lstE (e := (eV eI)) (xs := [([] : (List Int))]) (p_cons (p_tupE (e := eI) (xs := ([] : List Int)) p_nil (p_len (n := 0) (by decide))) p_nil) (p_len (n := 1) (by decide)))) (fun every_v19 => (s_forget (s_next (E := (fun (s : (List (List Int))) => [none, some (.val (eD D.stt)), some (.val (eI count_)), some (.val ((eL eS) names_)), some (.val ((eL (eT2 eS eS)) pairs_)), some (.val ((eL (eL (eT2 eS eS))) orders_)), some (.val (eD told_v18)), some (.val ((eL (eV eI)) s)), none, none, none, none, none, some (.val ((eL (eT2 eS eS)) one_)), some (.val ((eL (eT2 eS eS)) other_)), none, none, none, none, none, none, none, none, none, none])) (l_for (e := eS) (i_L (rfl : _ = M.ret ((eL eS) names_))) (rf_loopM (e := eS) (E := (fun (s : (List (List Int))) => [none, some (.val (eD D.stt)), some (.val (eI count_)), some (.val ((eL eS) names_)), some (.val ((eL (eT2 eS eS)) pairs_)), some (.val ((eL (eL (eT2 eS eS))) orders_)), some (.val (eD told_v18)), some (.val ((eL (eV eI)) s)), none, none, none, none, none, some (.val ((eL (eT2 eS eS)) one_)), some (.val ((eL (eT2 eS eS)) other_)), none, none, none, none, none, none, none, none, none, none])) (fun _ _ => rfl) (fun x20 s21 => (s_setE (e := (eL (eV eI))) (b_EE (r_lc rfl (i_L (rfl : _ = M.ret ((eL (eV eI)) s21))) (fun _ => rfl) (fun x22 => (et_ret rfl)) (fun x22 => (b_PP (rfl : _ = M.ret ((eV eI) x22)) (p_tupE (e := eI) (xs := [(0 : Int)]) (p_cons (rfl : _ = M.ret (eI (0 : Int))) p_nil) (p_len (n := 1) (by decide))) (r_catV _ _)))) (r_lc rfl (i_L (rfl : _ = M.ret ((eL (eV eI)) s21))) (fun _ => rfl) (fun x23 => (et_ret rfl)) (fun x23 => (b_PP (rfl : _ = M.ret ((eV eI) x23)) (p_tupE (e := eI) (xs := [(1 : Int)]) (p_cons (rfl : _ = M.ret (eI (1 : Int))) p_nil) (p_len (n := 1) (by decide))) (r_catV _ _)))) (fun v24 v25 => (r_cat _ _))) (fun every_v26 => (e_goX rfl)))) names_ every_v19)) (fun s28 => (s_asgE (e := (eT2 eB eB)) (ev_ret (e := (eT2 eB eB)) (p_tup (ds := [eB true, eB true]) (p_cons (rfl : _ = M.ret (eB true)) (p_cons (rfl : _ = M.ret (eB true)) p_nil)) (p_len (n := 2) (by decide)))) (fun _ => rfl) (fun u29 => (rf_law_r9 k _ _ _ _ _ _ _ _ _ _))))))))))
end K79

set_option Elab.async false
set_option linter.all false
set_option maxRecDepth 100000
set_option maxHeartbeats 0
namespace K79
open PySem PySem.Spec L2 DL
def t_law (k : Nat) : M Bool := (((askM (3 : Int))) >>= fun v2 => .ret ((1 : Int) + v2)) >>= fun count_v3 => (M.ret (cutD [s_x, s_y, s_z] none (some count_v3))) >>= fun names_v4 => ((lcM (fun x5 => (M.ret true)) (fun x5 => ((((askM (2 : Int))) >>= fun v7 => (ixM [s_all, s_some] v7)) >>= fun v8 => .ret (v8, x5)))) names_v4) >>= fun pairs_v9 => ((t_law_orders (k + 2) pairs_v9)) >>= fun orders_v10 => ((((askM ((orders_v10.length : Nat) : Int))) >>= fun v12 => (ixM orders_v10 v12)) >>= fun v15 => (((askM ((orders_v10.length : Nat) : Int))) >>= fun v14 => (ixM orders_v10 v14)) >>= fun v16 => .ret (v15, v16)) >>= fun u17 => (t_law_r5 k (count_v3) (names_v4) (pairs_v9) (orders_v10) (u17.1) (u17.2))
theorem rf_law (k : Nat) : Rf (RFn eB) (b_law (k + 2) (none :: some (.val .stt) :: List.replicate 23 none)) (t_law k) :=
  (s_setE (e := eI) (b_PE (rfl : _ = M.ret (eI (1 : Int))) (c_call (a_consP (d := eD D.stt) (rfl : _ = M.ret (eD D.stt)) (a_consP (d := eI (3 : Int)) (rfl : _ = M.ret (eI (3 : Int))) (a_nil (r_take _))))) (fun v2 => (ev_ret (e := eI) rfl))) (fun count_v3 => (s_setE (e := (eL eS)) (ev_ret (e := (eL eS)) (p_sl (p_lstE (e := eS) (xs := [s_x, s_y, s_z]) (p_cons (rfl : _ = M.ret (eS s_x)) (p_cons (rfl : _ = M.ret (eS s_y)) (p_cons (rfl : _ = M.ret (eS s_z)) p_nil))) (p_len (n := 3) (by decide))) po_n (po_s (rfl : _ = M.ret (eI count_v3))) (o_slL _ _ _))) (fun names_v4 => (s_setE (e := (eL (eT2 eS eS))) (r_lc rfl (i_L (rfl : _ = M.ret ((eL eS) names_v4))) (fun _ => rfl) (fun x5 => (et_ret rfl)) (fun x5 => (r_tup (a_cons (b_PE (p_lstE (e := eS) (xs := [s_all, s_some]) (p_cons (rfl : _ = M.ret (eS s_all)) (p_cons (rfl : _ = M.ret (eS s_some)) p_nil)) (p_len (n := 2) (by decide))) (c_call (a_consP (d := eD D.stt) (rfl : _ = M.ret (eD D.stt)) (a_consP (d := eI (2 : Int)) (rfl : _ = M.ret (eI (2 : Int))) (a_nil (r_take _))))) (fun v7 => (r_ix _ _))) (fun v8 => (a_consP (d := eS x5) (rfl : _ = M.ret (eS x5)) (a_nil (k_disp (R := Re (eT2 eS eS)) (r := ((v8, x5) : (Str × Str))) (p_len (n := 2) (by decide)) rfl)))))))) (fun pairs_v9 => (s_setE (e := (eL (eL (eT2 eS eS)))) (c_call (a_consP (d := (eL (eT2 eS eS)) pairs_v9) (rfl : _ = M.ret ((eL (eT2 eS eS)) pairs_v9)) (a_nil (rf_law_orders _ _)))) (fun orders_v10 => (s_asgE (e := (eT2 (eL (eT2 eS eS)) (eL (eT2 eS eS)))) (r_tup (a_cons (b_PE (rfl : _ = M.ret ((eL (eL (eT2 eS eS))) orders_v10)) (c_call (a_consP (d := eD D.stt) (rfl : _ = M.ret (eD D.stt)) (a_consP (d := eI ((orders_v10.length : Nat) : Int)) (p_call (p_cons (rfl : _ = M.ret ((eL (eL (eT2 eS eS))) orders_v10)) p_nil) (o_lenL _)) (a_nil (r_take _))))) (fun v12 => (r_ix _ _))) (fun v15 => (a_cons (b_PE (rfl : _ = M.ret ((eL (eL (eT2 eS eS))) orders_v10)) (c_call (a_consP (d := eD D.stt) (rfl : _ = M.ret (eD D.stt)) (a_consP (d := eI ((orders_v10.length : Nat) : Int)) (p_call (p_cons (rfl : _ = M.ret ((eL (eL (eT2 eS eS))) orders_v10)) p_nil) (o_lenL _)) (a_nil (r_take _))))) (fun v14 => (r_ix _ _))) (fun v16 => (a_nil (k_disp (R := Re (eT2 (eL (eT2 eS eS)) (eL (eT2 eS eS)))) (r := ((v15, v16) : ((List (Str × Str)) × (List (Str × Str))))) (p_len (n := 2) (by decide)) rfl))))))) (fun _ => rfl) (fun u17 => (rf_law_r5 k _ _ _ _ _ _)))))))))))
end K79

set_option Elab.async false
set_option linter.all false
set_option maxRecDepth 100000
set_option maxHeartbeats 0
namespace K79
open PySem PySem.Spec L2 DL
/-- count, names, pairs, all rows, how many lots of rows; each order with the lots for which it holds -/
structure Grp where
  count : Int
  names : List Str
  pairs : List (Str × Str)
  every : List (List Int)
  n : Nat
  tabs : List (List (Str × Str) × Nat)
def Grp.orders (g : Grp) : List (List (Str × Str)) := g.tabs.map (·.1)
def rowsM (every_ : List (List Int)) (x31 : Int) : M (List (List Int)) := (rgM 0 ((every_.length : Nat) : Int)) >>= fun v44 => (lcM (fun x33 => ((((shlM (1 : Int) x33) >>= fun v35 => (fdivM x31 v35)) >>= fun v40 => (((shlM (2 : Int) x33) >>= fun v37 => (fdivM x31 v37)) >>= fun v38 => (mulM v38 (2 : Int))) >>= fun v41 => .ret (v40 - v41)) >>= fun v42 => .ret (decide (v42 = (1 : Int))))) (fun x33 => (ixM every_ x33))) v44
def everyM (names_ : List Str) : M (List (List Int)) := loopM (fun x20 s21 => (((lcM (fun x22 => (M.ret true)) (fun x22 => (catM x22 [(0 : Int)]))) s21) >>= fun v24 => ((lcM (fun x23 => (M.ret true)) (fun x23 => (catM x23 [(1 : Int)]))) s21) >>= fun v25 => (catM v24 v25)) >>= fun every_v26 => .ret every_v26) names_ [[]]
def atLot (g : Grp) (one : List (Str × Str)) (b : Bool) (x : Nat) : M (List (List Int)) → Bool
  | .ret R => decide ((t_law_holds (38 + 2) one g.names 2 R []).val = some b) && (decide (3 ≤ x) || decide ((t_holds (38 + 2) one g.names 2 R).val = some b))
  | _ => false
def chkTab (g : Grp) (t : List (Str × Str) × Nat) : Bool := (List.range g.n).all fun x => atLot g t.1 (t.2.testBit x) x (rowsM g.every (x : Nat))
def says (n m1 m2 : Nat) : Bool := true && (List.range n).all fun i => (m2.testBit ((i : Nat) : Int).toNat || !m1.testBit ((i : Nat) : Int).toNat)
def chkBase (g : Grp) (t u : List (Str × Str) × Nat) : Bool := match t_entails t.1 u.1 with
  | .ret told => (t_law_r10 38 g.count g.names g.pairs g.orders told g.every t.1 u.1 (says g.n t.2 u.2) (says g.n u.2 t.2)).all id
  | _ => false
def okG (g : Grp) : Bool := decide ((everyM g.names).val = some g.every) && (decide ((shlM (1 : Int) ((g.every.length : Nat) : Int) >>= fun v30 => rgM 0 v30).val = some (rgT 0 g.n)) && (g.tabs.all (chkTab g) && g.tabs.all fun t => g.tabs.all fun u => chkBase g t u))
theorem lot_ok {g : Grp} {t : List (Str × Str) × Nat} (h : chkTab g t = true) {x : Int} (hx : x ∈ rgT 0 g.n) :
    ∃ R, rowsM g.every x = .ret R ∧ t_law_holds (38 + 2) t.1 g.names 2 R [] = .ret (t.2.testBit x.toNat) ∧ (x < 3 → t_holds (38 + 2) t.1 g.names 2 R = .ret (t.2.testBit x.toNat)) := by
  obtain ⟨h1, h2⟩ := rgT_mem hx
  have q := List.all_eq_true.mp h x.toNat (List.mem_range.mpr (by omega))
  have e : ((x.toNat : Nat) : Int) = x := by omega
  rw [e] at q
  cases hr : rowsM g.every x with
  | ret R =>
    rw [hr] at q
    simp only [atLot, Bool.and_eq_true, Bool.or_eq_true, decide_eq_true_eq] at q
    refine ⟨R, rfl, M.val_eq q.1, fun h3 => ?_⟩
    rcases q.2 with z | z
    · omega
    · exact M.val_eq z
  | fail => rw [hr] at q; cases q
  | ask k f => rw [hr] at q; cases q
theorem r9_ok {g : Grp} {told : D} {t u : List (Str × Str) × Nat} {orders : List (List (Str × Str))} (h0 : (shlM (1 : Int) ((g.every.length : Nat) : Int) >>= fun v30 => rgM 0 v30).val = some (rgT 0 g.n)) (h1 : chkTab g t = true) (h2 : chkTab g u = true) {P : Bool → Prop}
    (h : (t_law_r10 38 g.count g.names g.pairs orders told g.every t.1 u.1 (says g.n t.2 u.2) (says g.n u.2 t.2)).wp P) : (t_law_r9 38 g.count g.names g.pairs orders told g.every t.1 u.1 true true).wp P := by
  unfold t_law_r9
  rw [M.val_eq h0]
  refine M.wp_bind.mpr ?_
  show (loopR _ (rgT 0 g.n) (true, true)).wp _
  rw [loopR_go (st := fun x s => (s.1 && (u.2.testBit x.toNat || !t.2.testBit x.toNat), s.2 && (t.2.testBit x.toNat || !u.2.testBit x.toNat))) _ _ ?_, fold_and, rgT_all, rgT_all]
  · exact h
  · intro x hx s
    obtain ⟨R, e1, e2, e3⟩ := lot_ok h1 hx
    obtain ⟨R', e1', e4, _⟩ := lot_ok h2 hx
    rw [e1] at e1'
    cases e1'
    show (rowsM g.every x >>= _) = _
    rw [e1]
    show (t_law_holds (38 + 2) t.1 g.names 2 R [] >>= _) = _
    rw [e2]
    show (t_law_holds (38 + 2) u.1 g.names 2 R [] >>= _) = _
    rw [e4]
    by_cases h3 : x < 3
    · show ((if decide (x < 3) = true then t_holds (38 + 2) t.1 g.names 2 R >>= _ else _) >>= _) = _
      rw [decide_eq_true h3, if_pos rfl, e3 h3]
      show ((M.ret (!(t.2.testBit x.toNat == t.2.testBit x.toNat))) >>= _) = _
      rw [beq_self_eq_true]; rfl
    · show ((if decide (x < 3) = true then t_holds (38 + 2) t.1 g.names 2 R >>= _ else _) >>= _) = _
      rw [decide_eq_false h3]; rfl
theorem r5_ok {g : Grp} (h : okG g = true) {t u : List (Str × Str) × Nat} (ht : t ∈ g.tabs) (hu : u ∈ g.tabs) : (t_law_r5 38 g.count g.names g.pairs g.orders t.1 u.1).wp (· = true) := by
  simp only [okG, Bool.and_eq_true, decide_eq_true_eq] at h
  obtain ⟨h1, h2, h3, h4⟩ := h
  have q3 := List.all_eq_true.mp h3
  have q4 := List.all_eq_true.mp (List.all_eq_true.mp h4 t ht) u hu
  unfold chkBase at q4
  unfold t_law_r5
  cases he : t_entails t.1 u.1 with
  | ret told =>
    rw [he] at q4
    show (everyM g.names >>= _).wp _
    rw [M.val_eq h1]
    exact r9_ok h2 (q3 t ht) (q3 u hu) (M.all_wp q4)
  | fail => rw [he] at q4; cases q4
  | ask k f => rw [he] at q4; cases q4
def g0 : Grp := ⟨1, [s_x], [(s_all, s_x)], [[0], [1]], 4, [([(s_all, s_x)], 8)]⟩
def g1 : Grp := ⟨1, [s_x], [(s_some, s_x)], [[0], [1]], 4, [([(s_some, s_x)], 14)]⟩
def g2 : Grp := ⟨2, [s_x, s_y], [(s_all, s_x), (s_all, s_y)], [[0, 0], [1, 0], [0, 1], [1, 1]], 16, [([(s_all, s_x), (s_all, s_y)], 32768),
  ([(s_all, s_y), (s_all, s_x)], 32768)]⟩
def g3 : Grp := ⟨2, [s_x, s_y], [(s_all, s_x), (s_some, s_y)], [[0, 0], [1, 0], [0, 1], [1, 1]], 16, [([(s_all, s_x), (s_some, s_y)], 64200),
  ([(s_some, s_y), (s_all, s_x)], 63624)]⟩
def g4 : Grp := ⟨2, [s_x, s_y], [(s_some, s_x), (s_all, s_y)], [[0, 0], [1, 0], [0, 1], [1, 1]], 16, [([(s_some, s_x), (s_all, s_y)], 60576),
  ([(s_all, s_y), (s_some, s_x)], 61152)]⟩
def g5 : Grp := ⟨2, [s_x, s_y], [(s_some, s_x), (s_some, s_y)], [[0, 0], [1, 0], [0, 1], [1, 1]], 16, [([(s_some, s_x), (s_some, s_y)], 65534),
  ([(s_some, s_y), (s_some, s_x)], 65534)]⟩
def g6 : Grp := ⟨3, [s_x, s_y, s_z], [(s_all, s_x), (s_all, s_y), (s_all, s_z)], [[0, 0, 0], [1, 0, 0], [0, 1, 0], [1, 1, 0], [0, 0, 1], [1, 0, 1], [0, 1, 1], [1, 1, 1]], 256, [([(s_all, s_x), (s_all, s_y), (s_all, s_z)], 57896044618658097711785492504343953926634992332820282019728792003956564819968),
  ([(s_all, s_x), (s_all, s_z), (s_all, s_y)], 57896044618658097711785492504343953926634992332820282019728792003956564819968),
  ([(s_all, s_y), (s_all, s_x), (s_all, s_z)], 57896044618658097711785492504343953926634992332820282019728792003956564819968),
  ([(s_all, s_y), (s_all, s_z), (s_all, s_x)], 57896044618658097711785492504343953926634992332820282019728792003956564819968),
  ([(s_all, s_z), (s_all, s_x), (s_all, s_y)], 57896044618658097711785492504343953926634992332820282019728792003956564819968),
  ([(s_all, s_z), (s_all, s_y), (s_all, s_x)], 57896044618658097711785492504343953926634992332820282019728792003956564819968)]⟩
def g7 : Grp := ⟨3, [s_x, s_y, s_z], [(s_all, s_x), (s_all, s_y), (s_some, s_z)], [[0, 0, 0], [1, 0, 0], [0, 1, 0], [1, 1, 0], [0, 0, 1], [1, 0, 1], [0, 1, 1], [1, 1, 1]], 256, [([(s_all, s_x), (s_all, s_y), (s_some, s_z)], 115791500291889152486670763950953303247752819623419121341159775322040269045760),
  ([(s_all, s_x), (s_some, s_z), (s_all, s_y)], 115791431004742283465943663293681513582602209230051782324172192525150675042304),
  ([(s_all, s_y), (s_all, s_x), (s_some, s_z)], 115791500291889152486670763950953303247752819623419121341159775322040269045760),
  ([(s_all, s_y), (s_some, s_z), (s_all, s_x)], 115791264708685965513420889312456091995063455136302889321145825735898573078528),
  ([(s_some, s_z), (s_all, s_x), (s_all, s_y)], 115791205827263985256189777166936067718822618843334179307537224342537410478080),
  ([(s_some, s_z), (s_all, s_y), (s_all, s_x)], 115791205827263985256189777166936067718822618843334179307537224342537410478080)]⟩
def g8 : Grp := ⟨3, [s_x, s_y, s_z], [(s_all, s_x), (s_some, s_y), (s_all, s_z)], [[0, 0, 0], [1, 0, 0], [0, 1, 0], [1, 1, 0], [0, 0, 1], [1, 0, 1], [0, 1, 1], [1, 1, 1]], 256, [([(s_all, s_x), (s_some, s_y), (s_all, s_z)], 113433243180533722373930857381537955083159604293310560621531225412710101417984),
  ([(s_all, s_x), (s_all, s_z), (s_some, s_y)], 113433312413759056171408424330712335900382043218136666692713313972333104332800),
  ([(s_some, s_y), (s_all, s_x), (s_all, s_z)], 112415534093858489989648788002862385063364779597136489416049978161665429995520),
  ([(s_some, s_y), (s_all, s_z), (s_all, s_x)], 112415534093858489989648788002862385063364779597136489416049978161665429995520),
  ([(s_all, s_z), (s_all, s_x), (s_some, s_y)], 113433312413759056171408424330712335900382043218136666692713313972333104332800),
  ([(s_all, s_z), (s_some, s_y), (s_all, s_x)], 112415592975280470246879900148382409339605615890105199429658579555026592595968)]⟩
def g9 : Grp := ⟨3, [s_x, s_y, s_z], [(s_all, s_x), (s_some, s_y), (s_some, s_z)], [[0, 0, 0], [1, 0, 0], [0, 1, 0], [1, 1, 0], [0, 0, 1], [1, 0, 1], [0, 1, 1], [1, 1, 1]], 256, [([(s_all, s_x), (s_some, s_y), (s_some, s_z)], 115792089237316195423570983130658303445796893280499566792439948900851526728392),
  ([(s_all, s_x), (s_some, s_z), (s_some, s_y)], 115792089237316195423570983130658303445796893280499566792439948900851526728392),
  ([(s_some, s_y), (s_all, s_x), (s_some, s_z)], 115792089237316195423570983130641109396343689565960678718510341501394422134920),
  ([(s_some, s_y), (s_some, s_z), (s_all, s_x)], 115792089237316195423570982215715661539560512620254641425260666993796945868936),
  ([(s_some, s_z), (s_all, s_x), (s_some, s_y)], 115792089237316195423570983057583221562237629024266849699019062971748269488840),
  ([(s_some, s_z), (s_some, s_y), (s_all, s_x)], 115792089237316195423570982215715661539560512620254641425260666993796945868936)]⟩
def g10 : Grp := ⟨3, [s_x, s_y, s_z], [(s_some, s_x), (s_all, s_y), (s_all, s_z)], [[0, 0, 0], [1, 0, 0], [0, 1, 0], [1, 1, 0], [0, 0, 1], [1, 0, 1], [0, 1, 1], [1, 1, 1]], 256, [([(s_some, s_x), (s_all, s_y), (s_all, s_z)], 107029935769185941278114605979399788927616679967318317557028581966616941559808),
  ([(s_some, s_x), (s_all, s_z), (s_all, s_y)], 107029935769185941278114605979399788927616679967318317557028581966616941559808),
  ([(s_all, s_y), (s_some, s_x), (s_all, s_z)], 108047644855861173662396675358075358947411504663492388762509829217661612982272),
  ([(s_all, s_y), (s_all, s_z), (s_some, s_x)], 108047880385142821796786417547504011813992949218951851934839770582895839674368),
  ([(s_all, s_z), (s_some, s_x), (s_all, s_y)], 107030160946664239487868492106145234791396270354035920573663550149230206124032),
  ([(s_all, s_z), (s_all, s_y), (s_some, s_x)], 108047880385142821796786417547504011813992949218951851934839770582895839674368)]⟩
def g11 : Grp := ⟨3, [s_x, s_y, s_z], [(s_some, s_x), (s_all, s_y), (s_some, s_z)], [[0, 0, 0], [1, 0, 0], [0, 1, 0], [1, 1, 0], [0, 0, 1], [1, 0, 1], [0, 1, 1], [1, 1, 1]], 256, [([(s_some, s_x), (s_all, s_y), (s_some, s_z)], 115792089237316167998913503104262455118559129879226957062259550795467815185568),
  ([(s_some, s_x), (s_some, s_z), (s_all, s_y)], 115792089237316164295423479226027408908690463664837632646372543588300570553504),
  ([(s_all, s_y), (s_some, s_x), (s_some, s_z)], 115792089237316167998913503104279649168012333593765845136189158194924919779040),
  ([(s_all, s_y), (s_some, s_z), (s_some, s_x)], 115792089237316167998913503104279649168012333593765845136189158194924919779040),
  ([(s_some, s_z), (s_some, s_x), (s_all, s_y)], 115792089237316164295423479226027408908690463664837632646372543588300570553504),
  ([(s_some, s_z), (s_all, s_y), (s_some, s_x)], 115792089237316167911034078808866118469547328531965376822009453549892772359904)]⟩
def g12 : Grp := ⟨3, [s_x, s_y, s_z], [(s_some, s_x), (s_some, s_y), (s_all, s_z)], [[0, 0, 0], [1, 0, 0], [0, 1, 0], [1, 1, 0], [0, 0, 1], [1, 0, 1], [0, 1, 1], [1, 1, 1]], 256, [([(s_some, s_x), (s_some, s_y), (s_all, s_z)], 115790322309369520062934676437782565343776959403296307810268672752724889698304),
  ([(s_some, s_x), (s_all, s_z), (s_some, s_y)], 115790322363291058989674234024115020401573797086226865171961174197158725419008),
  ([(s_some, s_y), (s_some, s_x), (s_all, s_z)], 115790322309369520062934676437782565343776959403296307810268672752724889698304),
  ([(s_some, s_y), (s_all, s_z), (s_some, s_x)], 115790322363291058901794809801776571586668056280659113951202355481229835239424),
  ([(s_all, s_z), (s_some, s_x), (s_some, s_y)], 115790322363291058989674234097190102285133061342459582265382060126261982658560),
  ([(s_all, s_z), (s_some, s_y), (s_some, s_x)], 115790322363291058989674234097190102285133061342459582265382060126261982658560)]⟩
def g13 : Grp := ⟨3, [s_x, s_y, s_z], [(s_some, s_x), (s_some, s_y), (s_some, s_z)], [[0, 0, 0], [1, 0, 0], [0, 1, 0], [1, 1, 0], [0, 0, 1], [1, 0, 1], [0, 1, 1], [1, 1, 1]], 256, [([(s_some, s_x), (s_some, s_y), (s_some, s_z)], 115792089237316195423570985008687907853269984665640564039457584007913129639934),
  ([(s_some, s_x), (s_some, s_z), (s_some, s_y)], 115792089237316195423570985008687907853269984665640564039457584007913129639934),
  ([(s_some, s_y), (s_some, s_x), (s_some, s_z)], 115792089237316195423570985008687907853269984665640564039457584007913129639934),
  ([(s_some, s_y), (s_some, s_z), (s_some, s_x)], 115792089237316195423570985008687907853269984665640564039457584007913129639934),
  ([(s_some, s_z), (s_some, s_x), (s_some, s_y)], 115792089237316195423570985008687907853269984665640564039457584007913129639934),
  ([(s_some, s_z), (s_some, s_y), (s_some, s_x)], 115792089237316195423570985008687907853269984665640564039457584007913129639934)]⟩
def groups : List Grp := [g0, g1, g2, g3, g4, g5, g6, g7, g8, g9, g10, g11, g12, g13]
theorem g0_ok : okG g0 = true := by decide +kernel
theorem g1_ok : okG g1 = true := by decide +kernel
theorem g2_ok : okG g2 = true := by decide +kernel
theorem g3_ok : okG g3 = true := by decide +kernel
theorem g4_ok : okG g4 = true := by decide +kernel
theorem g5_ok : okG g5 = true := by decide +kernel
theorem g6_ok : okG g6 = true := by decide +kernel
theorem g7_ok : okG g7 = true := by decide +kernel
theorem g8_ok : okG g8 = true := by decide +kernel
theorem g9_ok : okG g9 = true := by decide +kernel
theorem g10_ok : okG g10 = true := by decide +kernel
theorem g11_ok : okG g11 = true := by decide +kernel
theorem g12_ok : okG g12 = true := by decide +kernel
theorem g13_ok : okG g13 = true := by decide +kernel
theorem groups_ok : ∀ g ∈ groups, okG g = true := by
  intro g h
  simp only [groups, List.mem_cons, List.not_mem_nil, or_false] at h
  rcases h with rfl | rfl | rfl | rfl | rfl | rfl | rfl | rfl | rfl | rfl | rfl | rfl | rfl | rfl
  · exact g0_ok
  · exact g1_ok
  · exact g2_ok
  · exact g3_ok
  · exact g4_ok
  · exact g5_ok
  · exact g6_ok
  · exact g7_ok
  · exact g8_ok
  · exact g9_ok
  · exact g10_ok
  · exact g11_ok
  · exact g12_ok
  · exact g13_ok
def preM : M (Int × List Str × List (Str × Str) × List (List (Str × Str)) × List (Str × Str) × List (Str × Str)) := (((askM (3 : Int))) >>= fun v2 => .ret ((1 : Int) + v2)) >>= fun count_v3 => (M.ret (cutD [s_x, s_y, s_z] none (some count_v3))) >>= fun names_v4 => ((lcM (fun x5 => (M.ret true)) (fun x5 => ((((askM (2 : Int))) >>= fun v7 => (ixM [s_all, s_some] v7)) >>= fun v8 => .ret (v8, x5)))) names_v4) >>= fun pairs_v9 => ((t_law_orders (38 + 2) pairs_v9)) >>= fun orders_v10 => ((((askM ((orders_v10.length : Nat) : Int))) >>= fun v12 => (ixM orders_v10 v12)) >>= fun v15 => (((askM ((orders_v10.length : Nat) : Int))) >>= fun v14 => (ixM orders_v10 v14)) >>= fun v16 => .ret (v15, v16)) >>= fun u17 => .ret (count_v3, names_v4, pairs_v9, orders_v10, u17.1, u17.2)
theorem law_pre : t_law 38 = preM >>= fun b => t_law_r5 38 b.1 b.2.1 b.2.2.1 b.2.2.2.1 b.2.2.2.2.1 b.2.2.2.2.2 := by
  unfold t_law preM
  simp only [bind_assoc, M.bind_ret]
def known (b : Int × List Str × List (Str × Str) × List (List (Str × Str)) × List (Str × Str) × List (Str × Str)) : Bool := groups.any fun g => decide (b.1 = g.count) && (decide (b.2.1 = g.names) && (decide (b.2.2.1 = g.pairs) && (decide (b.2.2.2.1 = g.orders) && (memT b.2.2.2.2.1 g.orders && memT b.2.2.2.2.2 g.orders))))
theorem pre_known : preM.all known = true := by decide +kernel
theorem t_math : (t_law 38).wp (· = true) := by
  rw [law_pre]
  refine M.wp_bind.mpr (M.wp_mono (M.all_wp pre_known) fun b hb => ?_)
  obtain ⟨g, hg, h⟩ := List.any_eq_true.mp hb
  simp only [Bool.and_eq_true, decide_eq_true_eq, memT_eq] at h
  obtain ⟨h1, h2, h3, h4, h5, h6⟩ := h
  rw [h1, h2, h3, h4]
  obtain ⟨t, ht, e1⟩ := List.mem_map.mp h5
  obtain ⟨u, hu, e2⟩ := List.mem_map.mp h6
  rw [← e1, ← e2]
  exact r5_ok (groups_ok g hg) ht hu
theorem math : (b_law 40 (none :: some (.val .stt) :: List.replicate 23 none)).wp fun r => r.1 = .rt (.bl true) :=
  (rf_law 38).run _ (M.wp_mono t_math fun a ha d hd => by
    subst ha
    rcases hd with hd | ⟨_, hd⟩
    · exact hd
    · cases hd)
end K79

set_option Elab.async false
set_option linter.all false
set_option maxRecDepth 100000
set_option maxHeartbeats 0
namespace K79
open PySem PySem.Spec L2 DL
end K79
open PySem PySem.W PySem.Calls PyProof.Rows
theorem PySem.Challenge.cw_wordkinds_k79_prefixes_of_all_and_some_holds : PySem.Challenge.rw_wordkinds_k79_prefixes_of_all_and_some.Holds := by
  w_on; o_law
  refine HandSHeadRun.head_any (r := OpenLaw.row PySem.Challenge.rw_wordkinds_k79_prefixes_of_all_and_some) (q := view (OpenLaw.row PySem.Challenge.rw_wordkinds_k79_prefixes_of_all_and_some).prog [16]) (H := K79.hk) (ob := K79.ob) (M := 4000) (loose := K79.loose) (d := HandSHeadRun.topDef (OpenLaw.row PySem.Challenge.rw_wordkinds_k79_prefixes_of_all_and_some).prog 16) (kwd := []) K79.ob_eq
    (by kernel_rfl) (fun s => by kernel_rfl) K79.run (by kernel_rfl) (by kernel_rfl) (by kernel_rfl) (by rfl) (by first | assumption | decide +kernel) (by decide +kernel) ⟨rfl, rfl, rfl, rfl, rfl, by decide +kernel⟩ ?hw ?hc
  case hw => w_witness2
  case hc =>
    refine L2.walk_ofE (l := PySem.Challenge.rw_wordkinds_k79_prefixes_of_all_and_some) (n := 63) (k := 42) (x := "script") (CX := L2.CX0) rfl (by decide) (by kernel_rfl) ⟨rfl, by decide, by decide⟩ ?F (fun _ _ _ _ z => z)
    intro w mg fa h Y G hmg0
    obtain ⟨K, KX, c⟩ := Y
    have hmg : mg ("law" : PySem.Str) = some (.ref fa) := by
      have e : (HandSHeadRun.topDef (OpenLaw.row PySem.Challenge.rw_wordkinds_k79_prefixes_of_all_and_some).prog 16).name = ("law" : PySem.Str) := by kernel_rfl
      rw [← e]
      exact hmg0
    obtain ⟨fd, hb, hF⟩ := K79.facts (P := (PySem.Challenge.rw_wordkinds_k79_prefixes_of_all_and_some).prog) (w := w) KX G hmg c K79.math
    exact ⟨K, fd, DL.spLawD K, KX, hb, fun H a ns hl _ hS => ⟨a, ns, rfl, hS, hl, fun _ => rfl⟩, hF⟩

