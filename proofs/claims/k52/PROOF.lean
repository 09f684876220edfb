import PyProof.Rows.All
import Wide.All
import OpenK.AllK
import Wide.FinOn
import HandS.ForMost
import HandS.ForExc
import HandS.Defaults
import HandS.Wide
import HandS.Flow
import HandS.FStr
import HandS.IsInst
import HandS.Conv
import HandS.StrMore
import HandS.TryOnly
import HandS.TryMany
import HandS.TryElse
import HandS.ExcCtx
import HandS.HotCalls
import HandS.SuiteRaise
import HandS.NoneIn
import HandS.Iter
import HandS.RevRange
import HandS.Comp
import HandS.HeadHook1
import HandS.WordsDict
import HandS.RaiseMore
import HandS.More
import HandS.Text
import HandS.ExcIs
import HandS.HeadHook4
import HandS.EndBits
import HandS.HeadEnd
import KE.KStateDown
import Lean
import HandS.Head0
import HandS.Head1
import HandS.Head2
import PySem.Challenge.RW_corebank_k52_statements_add_up
set_option Elab.async false
set_option linter.all false
set_option maxRecDepth 100000
set_option maxHeartbeats 4000000
/-! The layer F over HandS: values in which a tuple is a value, a heap with counted places, and how both stand in L2's abstract heap. -/
namespace Mi
open PySem PySem.Spec PyProof.Rows L2

/-! ### values, heaps -/
inductive D where
  | non | bl (b : Bool) | int (i : Int) | str (x : Str) | tup (xs : List D) | rol (xs : List D) | ref (i : Nat) | cst (c : Nat) | exc (a : Addr)
inductive Ob where
  | lst (xs : List D) | dct (kvs : List (Key × D)) | lk (kvs : List (Key × D)) | ins (c : Nat) (fs : List (Nat × D))
structure Gh where
  n : Nat
  ob : Nat → Ob
def Gh.set (G : Gh) (i : Nat) (o : Ob) : Gh := ⟨G.n, fun j => if j = i then o else G.ob j⟩
def Gh.push (G : Gh) (o : Ob) : Gh := ⟨G.n + 1, fun j => if j = G.n then o else G.ob j⟩
inductive Rs (α : Type) where
  | ok (a : α) (G : Gh) | er (c : Nat) (G : Gh) | no
abbrev M (α : Type) := Gh → Rs α
def Rs.bind {α β : Type} : Rs α → (α → M β) → Rs β
  | .ok a G, f => f a G
  | .er c G, _ => .er c G
  | .no, _ => .no
/-- the text's names by numbers: classes, fields -/
structure Tg where
  ca : Nat → Addr
  fn : Nat → Str
abbrev Ev := List (Option D)
abbrev St := L2.St

/-! ### how they stand -/
def Imm : HO → Prop
  | .tup _ => True
  | .frz _ (.lst _) => True
  | .frz _ (.tup _) => True
  | .frz _ (.dK _) => True
  | _ => False
def Keep (H H' : Hp) : Prop := ∀ a u, H a = some u → Imm u → H' a = some u
/-- .. but for the locked dicts -/
def ImmT : HO → Prop
  | .tup _ => True
  | .frz _ (.lst _) => True
  | .frz _ (.tup _) => True
  | _ => False
def KeepT (H H' : Hp) : Prop := ∀ a u, H a = some u → ImmT u → H' a = some u
theorem ImmT.imm {u : HO} (h : ImmT u) : Imm u := by
  cases u with
  | tup xs => exact trivial
  | frz o u =>
    cases u with
    | lst xs => exact trivial
    | tup xs => exact trivial
    | _ => exact h.elim
  | _ => exact h.elim
theorem Keep.t {H H' : Hp} (k : Keep H H') : KeepT H H' := fun a u e i => k a u e i.imm
theorem Keep.refl (H : Hp) : Keep H H := fun _ _ e _ => e
theorem Keep.trans {H H1 H2 : Hp} (a : Keep H H1) (b : Keep H1 H2) : Keep H H2 := fun c u e i => b c u (a c u e i) i
theorem Keep.new {H : Hp} {p : Addr} {o : HO} (h : H p = none) : Keep H (upd H p o) := fun a u e _ => by rw [upd_ne (ne_of_none e h)]; exact e
theorem Keep.mut {H : Hp} {p : Addr} {o u : HO} (h : H p = some u) (hi : ¬ Imm u) : Keep H (upd H p o) := fun a v e i => by
  have n : a ≠ p := fun z => by subst z; rw [h] at e; cases e; exact hi i
  rw [upd_ne n]; exact e
/-- a list that is only read: the script, a list of the written part -/
def SqR (K : PySem.W.Frag) (H : Hp) (a : Addr) (xs : List V) : Prop :=
  (∃ o, H a = some (.frz o (.lst xs))) ∨
    ∃ (o : Obj) (its : Array Value) (n : Nat), K.lookup a = some o ∧ o.cls = .type "list" ∧ o.dict = none ∧ o.data = .seq its n ∧ its.size ≤ sizeLine ∧ Vals xs its.toList
theorem SqR.seq {K : PySem.W.Frag} {H : Hp} {a : Addr} {xs : List V} (h : SqR K H a xs) : SqL K H a xs := by
  rcases h with ⟨o, h⟩ | h
  · exact .inl (.inr ⟨o, h⟩)
  · exact .inr h
theorem SqR.keep {K : PySem.W.Frag} {H H' : Hp} {a : Addr} {xs : List V} (k : KeepT H H') (h : SqR K H a xs) : SqR K H' a xs := by
  rcases h with ⟨o, h⟩ | h
  · exact .inl ⟨o, k _ _ h trivial⟩
  · exact .inr h
theorem keepT {K : PySem.W.Frag} {H H' : Hp} {a : Addr} {xs : List V} (k : KeepT H H') (h : SqT K H a xs) : SqT K H' a xs := by
  rcases h with (h | ⟨o, h⟩) | h
  · exact .inl (.inl (k _ _ h trivial))
  · exact .inl (.inr ⟨o, k _ _ h trivial⟩)
  · exact .inr h
mutual
def RV (K : PySem.W.Frag) (g : Tg) (ρ : List Addr) (H : Hp) : D → V → Prop
  | .non, v => v = .non
  | .bl b, v => v = .bl b
  | .int i, v => v = .int i
  | .str x, v => v = .str x
  | .tup xs, v => ∃ a vs, v = .ref a ∧ SqT K H a vs ∧ RVs K g ρ H xs vs
  | .rol xs, v => ∃ a vs, v = .ref a ∧ SqR K H a vs ∧ RVs K g ρ H xs vs
  | .ref i, v => ∃ a, ρ[i]? = some a ∧ v = .ref a
  | .cst c, v => v = .ref (g.ca c)
  | .exc a, v => v = .ref a
def RVs (K : PySem.W.Frag) (g : Tg) (ρ : List Addr) (H : Hp) : List D → List V → Prop
  | [], vs => vs = []
  | x :: xs, vs => ∃ v r, vs = v :: r ∧ RV K g ρ H x v ∧ RVs K g ρ H xs r
end
structure Ext (ρ : List Addr) (H : Hp) (ρ' : List Addr) (H' : Hp) : Prop where
  pre : ∀ (i : Nat) a, ρ[i]? = some a → ρ'[i]? = some a
  keep : Keep H H'
theorem Ext.refl (ρ : List Addr) (H : Hp) : Ext ρ H ρ H := ⟨fun _ _ e => e, .refl H⟩
theorem Ext.trans {ρ ρ1 ρ2 : List Addr} {H H1 H2 : Hp} (a : Ext ρ H ρ1 H1) (b : Ext ρ1 H1 ρ2 H2) : Ext ρ H ρ2 H2 := ⟨fun i c e => b.pre i c (a.pre i c e), a.keep.trans b.keep⟩
section
variable {K : PySem.W.Frag} {g : Tg} {ρ ρ' : List Addr} {H H' : Hp}
theorem Ext.kt (x : Ext ρ H ρ' H') : KeepT H H' := x.keep.t
mutual
theorem RV.extT (hp : ∀ (i : Nat) a, ρ[i]? = some a → ρ'[i]? = some a) (hk : KeepT H H') : ∀ {d : D} {v : V}, RV K g ρ H d v → RV K g ρ' H' d v
  | .non, _, h => h
  | .bl _, _, h => h
  | .int _, _, h => h
  | .str _, _, h => h
  | .tup xs, _, h => by
    rw [RV] at h ⊢
    obtain ⟨a, vs, e, s, r⟩ := h
    exact ⟨a, vs, e, keepT hk s, RVs.extT hp hk r⟩
  | .rol xs, _, h => by
    rw [RV] at h ⊢
    obtain ⟨a, vs, e, s, r⟩ := h
    exact ⟨a, vs, e, s.keep hk, RVs.extT hp hk r⟩
  | .ref i, _, h => by
    rw [RV] at h ⊢
    obtain ⟨a, e, q⟩ := h
    exact ⟨a, hp _ _ e, q⟩
  | .cst _, _, h => h
  | .exc _, _, h => h
theorem RVs.extT (hp : ∀ (i : Nat) a, ρ[i]? = some a → ρ'[i]? = some a) (hk : KeepT H H') : ∀ {ds : List D} {vs : List V}, RVs K g ρ H ds vs → RVs K g ρ' H' ds vs
  | [], _, h => h
  | d :: ds, _, h => by
    rw [RVs] at h ⊢
    obtain ⟨v, r, e, h1, h2⟩ := h
    exact ⟨v, r, e, RV.extT hp hk h1, RVs.extT hp hk h2⟩
end
theorem RV.ext (x : Ext ρ H ρ' H') {d : D} {v : V} (h : RV K g ρ H d v) : RV K g ρ' H' d v := h.extT x.pre x.kt
theorem RVs.ext (x : Ext ρ H ρ' H') {ds : List D} {vs : List V} (h : RVs K g ρ H ds vs) : RVs K g ρ' H' ds vs := h.extT x.pre x.kt
theorem RVs.nil : RVs K g ρ H [] [] := by rw [RVs]
theorem RVs.cons {d : D} {ds : List D} {v : V} {vs : List V} (a : RV K g ρ H d v) (b : RVs K g ρ H ds vs) : RVs K g ρ H (d :: ds) (v :: vs) := by rw [RVs]; exact ⟨v, vs, rfl, a, b⟩
theorem RVs.len : ∀ {ds : List D} {vs : List V}, RVs K g ρ H ds vs → vs.length = ds.length
  | [], _, h => by rw [RVs] at h; subst h; rfl
  | d :: ds, _, h => by
    rw [RVs] at h
    obtain ⟨v, r, e, _, h2⟩ := h
    subst e
    simp only [List.length_cons, RVs.len h2]
theorem RVs.app : ∀ {ds es : List D} {vs ws : List V}, RVs K g ρ H ds vs → RVs K g ρ H es ws → RVs K g ρ H (ds ++ es) (vs ++ ws)
  | [], _, _, _, h, k => by rw [RVs] at h; subst h; exact k
  | d :: ds, _, _, _, h, k => by
    rw [RVs] at h
    obtain ⟨v, r, e, h1, h2⟩ := h
    subst e
    exact .cons h1 (RVs.app h2 k)
theorem RVs.get : ∀ {ds : List D} {vs : List V} {i : Nat} {d : D}, RVs K g ρ H ds vs → ds[i]? = some d → ∃ v, vs[i]? = some v ∧ RV K g ρ H d v
  | [], _, _, _, _, e => by simp at e
  | d :: ds, _, 0, _, h, e => by
    rw [RVs] at h
    obtain ⟨v, r, q, h1, h2⟩ := h
    subst q
    simp at e; subst e
    exact ⟨v, rfl, h1⟩
  | d :: ds, _, i + 1, _, h, e => by
    rw [RVs] at h
    obtain ⟨v, r, q, h1, h2⟩ := h
    subst q
    obtain ⟨w, e1, r1⟩ := RVs.get (i := i) h2 (by simpa using e)
    exact ⟨w, by simpa using e1, r1⟩
theorem RVs.get' : ∀ {ds : List D} {vs : List V} {i : Nat} {v : V}, RVs K g ρ H ds vs → vs[i]? = some v → ∃ d, ds[i]? = some d ∧ RV K g ρ H d v := fun {ds vs i v} h e => by
  have hi : i < ds.length := by rw [← h.len]; exact (List.getElem?_eq_some_iff.mp e).1
  obtain ⟨w, e1, r1⟩ := h.get (List.getElem?_eq_getElem hi)
  rw [e] at e1; cases e1
  exact ⟨_, List.getElem?_eq_getElem hi, r1⟩
theorem RVs.set {d : D} {v : V} (r : RV K g ρ H d v) : ∀ {ds : List D} {vs : List V} (i : Nat), RVs K g ρ H ds vs → RVs K g ρ H (ds.set i d) (vs.set i v)
  | [], _, _, h => by rw [RVs] at h; subst h; exact .nil
  | e :: ds, _, i, h => by
    rw [RVs] at h
    obtain ⟨w, q, z, h1, h2⟩ := h
    subst z
    cases i with
    | zero => exact .cons r h2
    | succ i => exact .cons h1 (RVs.set r i h2)
theorem RVs.drop : ∀ {ds : List D} {vs : List V} (i : Nat), RVs K g ρ H ds vs → RVs K g ρ H (ds.drop i) (vs.drop i)
  | _, _, 0, h => h
  | [], _, _ + 1, h => by rw [RVs] at h; subst h; exact .nil
  | e :: ds, _, i + 1, h => by
    rw [RVs] at h
    obtain ⟨w, q, z, h1, h2⟩ := h
    subst z
    exact RVs.drop i h2
theorem RVs.take : ∀ {ds : List D} {vs : List V} (i : Nat), RVs K g ρ H ds vs → RVs K g ρ H (ds.take i) (vs.take i)
  | _, _, 0, h => .nil
  | [], _, _ + 1, h => by rw [RVs] at h; subst h; exact .nil
  | e :: ds, _, i + 1, h => by
    rw [RVs] at h
    obtain ⟨w, q, z, h1, h2⟩ := h
    subst z
    exact .cons h1 (RVs.take i h2)
end
/-- pairs, by a map of the keys -/
def RM (K : PySem.W.Frag) (g : Tg) (ρ : List Addr) (H : Hp) {κ κ' : Type} (f : κ → κ') : List (κ × D) → List (κ' × V) → Prop
  | [], ws => ws = []
  | (k, d) :: r, ws => ∃ v q, ws = (f k, v) :: q ∧ RV K g ρ H d v ∧ RM K g ρ H f r q
def RO (K : PySem.W.Frag) (g : Tg) (ρ : List Addr) (H : Hp) : Ob → Addr → Prop
  | .lst xs, a => ∃ vs, H a = some (.lst vs) ∧ RVs K g ρ H xs vs
  | .dct kvs, a => ∃ ws, H a = some (.dK ws) ∧ RM K g ρ H id kvs ws ∧ (kvs.map (·.1)).Nodup
  | .lk kvs, a => ∃ o ws, H a = some (.frz o (.dK ws)) ∧ RM K g ρ H id kvs ws ∧ (kvs.map (·.1)).Nodup
  | .ins c fs, a => ∃ dx ws, H a = some (.ins (g.ca c) dx ws) ∧ RM K g ρ H g.fn fs ws
structure Rep (K : PySem.W.Frag) (g : Tg) (ρ : List Addr) (G : Gh) (H : Hp) : Prop where
  len : ρ.length = G.n
  nd : ρ.Nodup
  obj : ∀ (i : Nat) a, ρ[i]? = some a → RO K g ρ H (G.ob i) a
def RE (K : PySem.W.Frag) (g : Tg) (ρ : List Addr) (H : Hp) : Ev → St → Prop
  | [], σ => σ = []
  | none :: r, σ => ∃ y q, σ = y :: q ∧ RE K g ρ H r q
  | some d :: r, σ => ∃ v q, σ = some v :: q ∧ RV K g ρ H d v ∧ RE K g ρ H r q
section
variable {K : PySem.W.Frag} {g : Tg} {ρ ρ' : List Addr} {H H' : Hp} {G : Gh}
theorem RM.extT {κ κ' : Type} {f : κ → κ'} (hp : ∀ (i : Nat) a, ρ[i]? = some a → ρ'[i]? = some a) (hk : KeepT H H') : ∀ {l : List (κ × D)} {ws : List (κ' × V)}, RM K g ρ H f l ws → RM K g ρ' H' f l ws
  | [], _, h => h
  | (k, d) :: r, _, h => by
    rw [RM] at h ⊢
    obtain ⟨v, q, e, h1, h2⟩ := h
    exact ⟨v, q, e, h1.extT hp hk, RM.extT hp hk h2⟩
theorem RM.ext {κ κ' : Type} {f : κ → κ'} (x : Ext ρ H ρ' H') {l : List (κ × D)} {ws : List (κ' × V)} (h : RM K g ρ H f l ws) : RM K g ρ' H' f l ws := h.extT x.pre x.kt
theorem RO.extT {o : Ob} {a : Addr} (hp : ∀ (i : Nat) a, ρ[i]? = some a → ρ'[i]? = some a) (hk : KeepT H H') (e : H' a = H a) (h : RO K g ρ H o a) : RO K g ρ' H' o a := by
  cases o with
  | lst xs => obtain ⟨vs, h1, h2⟩ := h; exact ⟨vs, e.trans h1, h2.extT hp hk⟩
  | dct kvs => obtain ⟨ws, h1, h2, h3⟩ := h; exact ⟨ws, e.trans h1, h2.extT hp hk, h3⟩
  | lk kvs => obtain ⟨o, ws, h1, h2, h3⟩ := h; exact ⟨o, ws, e.trans h1, h2.extT hp hk, h3⟩
  | ins c fs => obtain ⟨dx, ws, h1, h2⟩ := h; exact ⟨dx, ws, e.trans h1, h2.extT hp hk⟩
theorem RO.ext {o : Ob} {a : Addr} (x : Ext ρ H ρ' H') (e : H' a = H a) (h : RO K g ρ H o a) : RO K g ρ' H' o a := h.extT x.pre x.kt e
def Ob.lkd : Ob → Bool
  | .lk _ => true
  | _ => false
theorem RO.there {o : Ob} {a : Addr} (h : RO K g ρ H o a) : ∃ u, H a = some u := by
  cases o with
  | lst xs => obtain ⟨vs, h1, h2⟩ := h; exact ⟨_, h1⟩
  | dct kvs => obtain ⟨ws, h1, h2⟩ := h; exact ⟨_, h1⟩
  | lk kvs => obtain ⟨o, ws, h1, h2⟩ := h; exact ⟨_, h1⟩
  | ins c fs => obtain ⟨dx, ws, h1, h2⟩ := h; exact ⟨_, h1⟩
theorem RO.mut {o : Ob} {a : Addr} (h : RO K g ρ H o a) (n : o.lkd = false) : ∃ u, H a = some u ∧ ¬ Imm u := by
  cases o with
  | lst xs => obtain ⟨vs, h1, h2⟩ := h; exact ⟨_, h1, id⟩
  | dct kvs => obtain ⟨ws, h1, h2⟩ := h; exact ⟨_, h1, id⟩
  | lk kvs => cases n
  | ins c fs => obtain ⟨dx, ws, h1, h2⟩ := h; exact ⟨_, h1, id⟩
theorem RE.extT (hp : ∀ (i : Nat) a, ρ[i]? = some a → ρ'[i]? = some a) (hk : KeepT H H') : ∀ {env : Ev} {σ : St}, RE K g ρ H env σ → RE K g ρ' H' env σ
  | [], _, h => h
  | none :: r, _, h => by
    rw [RE] at h ⊢
    obtain ⟨y, q, e, h2⟩ := h
    exact ⟨y, q, e, RE.extT hp hk h2⟩
  | some d :: r, _, h => by
    rw [RE] at h ⊢
    obtain ⟨v, q, e, h1, h2⟩ := h
    exact ⟨v, q, e, h1.extT hp hk, RE.extT hp hk h2⟩
theorem RE.ext (x : Ext ρ H ρ' H') {env : Ev} {σ : St} (h : RE K g ρ H env σ) : RE K g ρ' H' env σ := h.extT x.pre x.kt
theorem RE.get : ∀ {env : Ev} {σ : St} {i : Nat} {d : D}, RE K g ρ H env σ → env[i]? = some (some d) → ∃ v, σ[i]? = some (some v) ∧ RV K g ρ H d v
  | [], _, _, _, _, e => by simp at e
  | none :: r, _, i, _, h, e => by
    rw [RE] at h
    obtain ⟨y, q, z, h2⟩ := h
    subst z
    cases i with
    | zero => simp at e
    | succ i =>
      obtain ⟨w, e1, r1⟩ := RE.get (i := i) h2 (by simpa using e)
      exact ⟨w, by simpa using e1, r1⟩
  | some d :: r, _, i, _, h, e => by
    rw [RE] at h
    obtain ⟨v, q, z, h1, h2⟩ := h
    subst z
    cases i with
    | zero => simp at e; subst e; exact ⟨v, rfl, h1⟩
    | succ i =>
      obtain ⟨w, e1, r1⟩ := RE.get (i := i) h2 (by simpa using e)
      exact ⟨w, by simpa using e1, r1⟩
theorem RE.set {d : D} {v : V} (r : RV K g ρ H d v) : ∀ {env : Ev} {σ : St} (i : Nat), RE K g ρ H env σ → RE K g ρ H (env.set i (some d)) (σ.set i (some v))
  | [], _, _, h => by rw [RE] at h; subst h; rw [List.set_nil, List.set_nil, RE]
  | none :: t, _, i, h => by
    rw [RE] at h
    obtain ⟨y, q, z, h2⟩ := h
    subst z
    cases i with
    | zero => rw [List.set_cons_zero, List.set_cons_zero, RE]; exact ⟨_, _, rfl, r, h2⟩
    | succ i => rw [List.set_cons_succ, List.set_cons_succ, RE]; exact ⟨_, _, rfl, RE.set r i h2⟩
  | some e :: t, _, i, h => by
    rw [RE] at h
    obtain ⟨y, q, z, h1, h2⟩ := h
    subst z
    cases i with
    | zero => rw [List.set_cons_zero, List.set_cons_zero, RE]; exact ⟨_, _, rfl, r, h2⟩
    | succ i => rw [List.set_cons_succ, List.set_cons_succ, RE]; exact ⟨_, _, rfl, h1, RE.set r i h2⟩
theorem RE.unset : ∀ {env : Ev} {σ : St} (i : Nat) (y : Option V), RE K g ρ H env σ → RE K g ρ H (env.set i none) (σ.set i y)
  | [], _, _, _, h => by rw [RE] at h; subst h; rw [List.set_nil, List.set_nil, RE]
  | none :: t, _, i, y, h => by
    rw [RE] at h
    obtain ⟨y, q, z, h2⟩ := h
    subst z
    cases i with
    | zero => rw [List.set_cons_zero, List.set_cons_zero, RE]; exact ⟨_, _, rfl, h2⟩
    | succ i => rw [List.set_cons_succ, List.set_cons_succ, RE]; exact ⟨_, _, rfl, RE.unset i _ h2⟩
  | some e :: t, _, i, y, h => by
    rw [RE] at h
    obtain ⟨y, q, z, h1, h2⟩ := h
    subst z
    cases i with
    | zero => rw [List.set_cons_zero, List.set_cons_zero, RE]; exact ⟨_, _, rfl, h2⟩
    | succ i => rw [List.set_cons_succ, List.set_cons_succ, RE]; exact ⟨_, _, rfl, h1, RE.unset i _ h2⟩
theorem RE.args : ∀ {ds : List D} {vs : List V} (n : Nat), RVs K g ρ H ds vs → RE K g ρ H (ds.map some ++ List.replicate n none) (vs.map some ++ List.replicate n none)
  | [], _, 0, h => by rw [RVs] at h; subst h; rfl
  | [], _, n + 1, h => by
    rw [RVs] at h; subst h
    rw [List.map_nil, List.map_nil, List.nil_append, List.nil_append, List.replicate_succ, List.replicate_succ, RE]
    exact ⟨none, _, rfl, by simpa using RE.args (ds := []) (vs := []) n .nil⟩
  | d :: ds, _, n, h => by
    rw [RVs] at h
    obtain ⟨v, r, e, h1, h2⟩ := h
    subst e
    rw [List.map_cons, List.map_cons, List.cons_append, List.cons_append, RE]
    exact ⟨v, _, rfl, h1, RE.args n h2⟩

/-! ### steps of the heap -/
theorem Rep.at (R : Rep K g ρ G H) {i : Nat} (h : i < G.n) : ∃ a, ρ[i]? = some a := ⟨_, List.getElem?_eq_getElem (by rw [R.len]; exact h)⟩
/-- a heap that has grown, or changed where nothing of ours stands -/
theorem Rep.other (R : Rep K g ρ G H) (e : ∀ a ∈ ρ, H' a = H a) (k : Keep H H') : Rep K g ρ G H' :=
  ⟨R.len, R.nd, fun i a h => (R.obj i a h).ext ⟨fun _ _ z => z, k⟩ (e a (List.mem_of_getElem? h))⟩
theorem Rep.free (R : Rep K g ρ G H) {p : Addr} (h : H p = none) : ∀ a ∈ ρ, a ≠ p := fun a ha z => by
  subst z
  obtain ⟨i, hi⟩ := List.mem_iff_getElem?.mp ha
  obtain ⟨u, e⟩ := (R.obj i a hi).there
  rw [h] at e; cases e
theorem Rep.grow (R : Rep K g ρ G H) {p : Addr} {o : HO} (h : H p = none) : Rep K g ρ G (upd H p o) :=
  R.other (fun a ha => upd_ne (R.free h a ha)) (.new h)
/-- a new object of ours -/
theorem Rep.new (R : Rep K g ρ G H) {p : Addr} {o : HO} {ob : Ob} (h : H p = none) (n : RO K g (ρ ++ [p]) (upd H p o) ob p) : Rep K g (ρ ++ [p]) (G.push ob) (upd H p o) ∧ Ext ρ H (ρ ++ [p]) (upd H p o) ∧ (ρ ++ [p])[G.n]? = some p := by
  have x : Ext ρ H (ρ ++ [p]) (upd H p o) := ⟨fun i a e => by rw [List.getElem?_append_left (List.getElem?_eq_some_iff.mp e).1]; exact e, .new h⟩
  have q : (ρ ++ [p])[G.n]? = some p := by rw [← R.len, List.getElem?_append_right (Nat.le_refl _)]; simp
  refine ⟨⟨by rw [List.length_append, R.len]; rfl, ?_, fun i a e => ?_⟩, x, q⟩
  · rw [List.nodup_append]
    exact ⟨R.nd, by simp, fun a ha b hb => by
      have e : b = p := by simpa using hb
      subst e
      exact R.free h a ha⟩
  · by_cases hi : i < ρ.length
    · rw [List.getElem?_append_left hi] at e
      have hn : i ≠ G.n := by rw [← R.len]; omega
      show RO K g _ _ (if i = G.n then ob else G.ob i) a
      rw [if_neg hn]
      exact (R.obj i a e).ext x (upd_ne (R.free h a (List.mem_of_getElem? e)))
    · have hi' : i = G.n := by
        have := (List.getElem?_eq_some_iff.mp e).1
        rw [List.length_append, List.length_singleton] at this
        rw [← R.len]; omega
      subst hi'
      rw [q] at e; cases e
      show RO K g _ _ (if G.n = G.n then ob else _) p
      rw [if_pos rfl]
      exact n
/-- one of ours is written -/
theorem Rep.write (R : Rep K g ρ G H) {i : Nat} {a : Addr} {o : HO} {ob : Ob} (h : ρ[i]? = some a) (hm : (G.ob i).lkd = false) (n : Ext ρ H ρ (upd H a o) → RO K g ρ (upd H a o) ob a) : Rep K g ρ (G.set i ob) (upd H a o) ∧ Ext ρ H ρ (upd H a o) := by
  obtain ⟨u, e, hi⟩ := (R.obj i a h).mut hm
  have x : Ext ρ H ρ (upd H a o) := ⟨fun _ _ z => z, .mut e hi⟩
  refine ⟨⟨R.len, R.nd, fun j b q => ?_⟩, x⟩
  show RO K g _ _ (if j = i then ob else G.ob j) b
  by_cases hj : j = i
  · subst hj
    rw [h] at q; cases q
    rw [if_pos rfl]
    exact n x
  · rw [if_neg hj]
    refine (R.obj j b q).ext x (upd_ne fun z => ?_)
    subst z
    have h1 := (List.getElem?_eq_some_iff.mp h)
    have h2 := (List.getElem?_eq_some_iff.mp q)
    exact hj ((List.getElem_inj R.nd).mp (h2.2.trans h1.2.symm))
end
end Mi
/-! F, part 2: judgements, expressions. -/
namespace Mi
open PySem PySem.Spec PyProof.Rows L2

/-! ### what is wanted behind a mirror's step -/
def Po (K : PySem.W.Frag) (g : Tg) (W : WX) (σ : St) (ρ : List Addr) (H : Hp) {α : Type} : Rs α → (α → Gh → List Addr → Hp → Prop) → Prop
  | .ok a G, P => ∀ ρ' H', Ext ρ H ρ' H' → Rep K g ρ' G H' → P a G ρ' H'
  | .er c G, _ => ∀ ρ' H', Ext ρ H ρ' H' → Rep K g ρ' G H' → W (.ref (g.ca c)) none σ H'
  | .no, _ => False
section
variable {K : PySem.W.Frag} {g : Tg} {W : WX} {σ : St} {ρ ρ' : List Addr} {H H' : Hp} {α β : Type}
theorem Po.start {r : Rs α} {P : α → Gh → List Addr → Hp → Prop} (h : Po K g W σ ρ H r P) (x : Ext ρ H ρ' H') : Po K g W σ ρ' H' r P := by
  cases r with
  | ok a G => exact fun ρ2 H2 x2 R => h ρ2 H2 (x.trans x2) R
  | er c G => exact fun ρ2 H2 x2 R => h ρ2 H2 (x.trans x2) R
  | no => exact h
theorem Po.bind {r : Rs α} {f : α → M β} {P : β → Gh → List Addr → Hp → Prop} (h : Po K g W σ ρ H (r.bind f) P) : Po K g W σ ρ H r fun a G ρ' H' => Po K g W σ ρ' H' (f a G) P := by
  cases r with
  | ok a G => exact fun ρ2 H2 x2 R => Po.start h x2
  | er c G => exact h
  | no => exact h
theorem Po.imp {r : Rs α} {P P' : α → Gh → List Addr → Hp → Prop} (h : Po K g W σ ρ H r P) (k : ∀ a G ρ' H', Ext ρ H ρ' H' → Rep K g ρ' G H' → P a G ρ' H' → P' a G ρ' H') : Po K g W σ ρ H r P' := by
  cases r with
  | ok a G => exact fun ρ2 H2 x2 R => k a G ρ2 H2 x2 R (h ρ2 H2 x2 R)
  | er c G => exact h
  | no => exact h
theorem Po.now {a : α} {G : Gh} {P : α → Gh → List Addr → Hp → Prop} (h : Po K g W σ ρ H (.ok a G) P) (R : Rep K g ρ G H) : P a G ρ H := h ρ H (.refl _ _) R
end
def tE (K : PySem.W.Frag) (g : Tg) (W : WX) (m : Ev → M D) : TE := fun σ H Q => ∃ ρ env G, Rep K g ρ G H ∧ RE K g ρ H env σ ∧ Po K g W σ ρ H (m env G) fun d _ ρ' H' => ∀ v, RV K g ρ' H' d v → Q v H'
def tA (K : PySem.W.Frag) (g : Tg) (W : WX) (m : Ev → M (List D)) : TA := fun σ H Q => ∃ ρ env G, Rep K g ρ G H ∧ RE K g ρ H env σ ∧ Po K g W σ ρ H (m env G) fun ds _ ρ' H' => ∀ vs, RVs K g ρ' H' ds vs → Q vs H'
def tT (K : PySem.W.Frag) (g : Tg) (W : WX) (m : Ev → M Bool) : TT := fun σ H Q => ∃ ρ env G, Rep K g ρ G H ∧ RE K g ρ H env σ ∧ Po K g W σ ρ H (m env G) fun b _ _ H' => Q b H'
/-- a slice's part -/
def tP (K : PySem.W.Frag) (g : Tg) (W : WX) (m : Ev → M (Option Int)) : TO := fun σ H Q => ∃ ρ env G, Rep K g ρ G H ∧ RE K g ρ H env σ ∧ Po K g W σ ρ H (m env G) fun o _ _ H' => Q o H'
theorem PE.imp {X : Cx} {e : Expr} {t t' : TE} (h : PE X e t) (k : ∀ σ H Q, t' σ H Q → t σ H Q) : PE X e t' := ⟨fun pins s σ H Q I q => h.run pins s σ H Q I (k σ H Q q)⟩
theorem PT.imp {X : Cx} {e : Expr} {t t' : TT} (h : PT X e t) (k : ∀ σ H Q, t' σ H Q → t σ H Q) : PT X e t' := ⟨fun pins s σ H Q I q => h.run pins s σ H Q I (k σ H Q q)⟩
theorem PW.imp {X : Cx} {e : Expr} {t t' : TT} (h : PW X e t) (k : ∀ σ H Q, t' σ H Q → t σ H Q) : PW X e t' := ⟨fun wh pins s σ H Q I q => h.run wh pins s σ H Q I (k σ H Q q)⟩
theorem PA.imp {X : Cx} {es : List Expr} {t t' : TA} (h : PA X es t) (k : ∀ σ H Q, t' σ H Q → t σ H Q) : PA X es t' := ⟨fun pos pins s σ H Q I q => h.run pos pins s σ H Q I (k σ H Q q)⟩
theorem PO.imp {X : Cx} {e : Option Expr} {t t' : TO} (h : PO X e t) (k : ∀ σ H Q, t' σ H Q → t σ H Q) : PO X e t' := ⟨fun pins s σ H Q I q => h.run pins s σ H Q I (k σ H Q q)⟩
theorem PS.imp {X : Cx} {e : Stmt} {t t' : TS} (h : PS X e t) (k : ∀ D σ H, t' D σ H → t D σ H) : PS X e t' := ⟨fun pins s σ H D I q => h.run pins s σ H D I (k D σ H q)⟩
theorem PSs.imp {X : Cx} {e : List Stmt} {t t' : TS} (h : PSs X e t) (k : ∀ D σ H, t' D σ H → t D σ H) : PSs X e t' := ⟨fun pins s σ H D I q => h.run pins s σ H D I (k D σ H q)⟩
theorem OpR.imp {X : Cx} {f : Value → Value → Sem Value} {r r' : R2} (h : OpR X f r) (k : ∀ x y H Q, r' x y H Q → r x y H Q) : OpR X f r' := fun pins s σ H x y v u Q I rx ry q => h pins s σ H x y v u Q I rx ry (k x y H Q q)
abbrev FE (X : Cx) (g : Tg) (W : WX) (e : Expr) (m : Ev → M D) : Prop := PE X e (tE X.K g W m)
abbrev FT (X : Cx) (g : Tg) (W : WX) (e : Expr) (m : Ev → M Bool) : Prop := PT X e (tT X.K g W m)
abbrev FW (X : Cx) (g : Tg) (W : WX) (e : Expr) (m : Ev → M Bool) : Prop := PW X e (tT X.K g W m)
abbrev FA (X : Cx) (g : Tg) (W : WX) (es : List Expr) (m : Ev → M (List D)) : Prop := PA X es (tA X.K g W m)
abbrev FO (X : Cx) (g : Tg) (W : WX) (e : Option Expr) (m : Ev → M (Option Int)) : Prop := PO X e (tP X.K g W m)

section
variable {K : PySem.W.Frag} {g : Tg} {W : WX} {σ : St} {ρ : List Addr} {H : Hp} {env : Ev} {G : Gh}
theorem tE_run {m : Ev → M D} {P : D → Gh → List Addr → Hp → Prop} {Q : VK} (R : Rep K g ρ G H) (E : RE K g ρ H env σ) (h : Po K g W σ ρ H (m env G) P)
    (k : ∀ d G' ρ' H', Ext ρ H ρ' H' → Rep K g ρ' G' H' → P d G' ρ' H' → ∀ v, RV K g ρ' H' d v → Q v H') : tE K g W m σ H Q := ⟨ρ, env, G, R, E, h.imp k⟩
theorem tA_run {m : Ev → M (List D)} {P : List D → Gh → List Addr → Hp → Prop} {Q : List V → Hp → Prop} (R : Rep K g ρ G H) (E : RE K g ρ H env σ) (h : Po K g W σ ρ H (m env G) P)
    (k : ∀ d G' ρ' H', Ext ρ H ρ' H' → Rep K g ρ' G' H' → P d G' ρ' H' → ∀ v, RVs K g ρ' H' d v → Q v H') : tA K g W m σ H Q := ⟨ρ, env, G, R, E, h.imp k⟩
theorem tT_run {m : Ev → M Bool} {P : Bool → Gh → List Addr → Hp → Prop} {Q : Bool → Hp → Prop} (R : Rep K g ρ G H) (E : RE K g ρ H env σ) (h : Po K g W σ ρ H (m env G) P)
    (k : ∀ d G' ρ' H', Ext ρ H ρ' H' → Rep K g ρ' G' H' → P d G' ρ' H' → Q d H') : tT K g W m σ H Q := ⟨ρ, env, G, R, E, h.imp k⟩
theorem tP_run {m : Ev → M (Option Int)} {P : Option Int → Gh → List Addr → Hp → Prop} {Q : Option Int → Hp → Prop} (R : Rep K g ρ G H) (E : RE K g ρ H env σ) (h : Po K g W σ ρ H (m env G) P)
    (k : ∀ d G' ρ' H', Ext ρ H ρ' H' → Rep K g ρ' G' H' → P d G' ρ' H' → Q d H') : tP K g W m σ H Q := ⟨ρ, env, G, R, E, h.imp k⟩
end

/-! ### names, constants -/
/-- what is written in the text -/
def eC (d : D) : Ev → M D := fun _ G => .ok d G
def eVar (i : Nat) : Ev → M D := fun env G => match env[i]? with
  | some (some d) => .ok d G
  | _ => .no
section
variable {X : Cx} {g : Tg} {W : WX} {pos : Pos}
theorem fe_var (i : Nat) {x : Str} (hN : X.N[i]? = some x) (hv : Vis X.env.scope x) (hd : (x == ("__debug__" : Str)) = false := by decide) (hcd : (x == ("__classdict__" : Str)) = false := by decide) : FE X g W (.Name x pos) (eVar i) := by
  refine PE.imp (pe_var hN hv hd hcd) ?_
  rintro σ H Q ⟨ρ, env, G, R, E, h⟩
  unfold eVar at h
  split at h
  · rename_i d e
    obtain ⟨v, e1, r1⟩ := E.get e
    exact ⟨v, e1, h.now R v r1⟩
  · exact h.elim
theorem fe_of {e : Expr} {d : D} {v : V} (h : PE X e (tC v)) (r : ∀ ρ H, RV X.K g ρ H d v) : FE X g W e (eC d) :=
  PE.imp h fun σ H Q ⟨ρ, env, G, R, E, h⟩ => h.now R v (r ρ H)
theorem fe_int {i j} : FE X g W (.Constant (.int i) j pos) (eC (.int i)) := fe_of pe_int fun _ _ => rfl
theorem fe_bl {i j} : FE X g W (.Constant (.bool i) j pos) (eC (.bl i)) := fe_of pe_bl fun _ _ => rfl
theorem fe_str {i j} : FE X g W (.Constant (.str i) j pos) (eC (.str i)) := fe_of pe_str fun _ _ => rfl
theorem fe_non {j} : FE X g W (.Constant .none j pos) (eC .non) := fe_of pe_non fun _ _ => rfl
/-- a module's constant: an int, a text -/
theorem fe_gint {x : Str} {i : Int} (hg : Gl X x) (hm : ∃ t, X.mg x = some (.int i t)) (hd : (x == ("__debug__" : Str)) = false := by decide) : FE X g W (.Name x pos) (eC (.int i)) := by
  obtain ⟨t, e⟩ := hm
  exact fe_of (pe_glob hg e (v := .int i) ⟨t, rfl⟩ hd) fun _ _ => rfl
theorem fe_gstr {x i : Str} (hg : Gl X x) (hm : ∃ t, X.mg x = some (.str i t)) (hd : (x == ("__debug__" : Str)) = false := by decide) : FE X g W (.Name x pos) (eC (.str i)) := by
  obtain ⟨t, e⟩ := hm
  exact fe_of (pe_glob hg e (v := .str i) ⟨t, rfl⟩ hd) fun _ _ => rfl
/-- a class, a def as a value -/
theorem fe_gcst {x : Str} {c : Nat} (hg : Gl X x) (hm : X.mg x = some (.ref (g.ca c))) (hd : (x == ("__debug__" : Str)) = false := by decide) : FE X g W (.Name x pos) (eC (.cst c)) :=
  fe_of (pe_glob hg hm (v := .ref (g.ca c)) rfl hd) fun _ _ => rfl
/-- a module's tuple -/
theorem fe_gtup {x : Str} {a : Addr} {ds : List D} {vs : List V} (hg : Gl X x) (hm : X.mg x = some (.ref a)) (hs : ∀ H, SqT X.K H a vs) (hv : ∀ ρ H, RVs X.K g ρ H ds vs) (hd : (x == ("__debug__" : Str)) = false := by decide) : FE X g W (.Name x pos) (eC (.tup ds)) :=
  fe_of (pe_glob hg hm (v := .ref a) rfl hd) fun ρ H => by rw [RV]; exact ⟨a, vs, rfl, hs H, hv ρ H⟩
end

/-! ### two-place operations -/
abbrev O2 := D → D → Gh → Option (D × Gh)
def lift (o : Option (D × Gh)) : Rs D := match o with
  | some (d, G) => .ok d G
  | none => .no
def eOp (f : O2) (ma mb : Ev → M D) : Ev → M D := fun env G => (ma env G).bind fun x G1 => (mb env G1).bind fun y G2 => lift (f x y G2)
def eUn (f : D → Gh → Option (D × Gh)) (ma : Ev → M D) : Ev → M D := fun env G => (ma env G).bind fun x G1 => lift (f x G1)
def rF (K : PySem.W.Frag) (g : Tg) (f : O2) : R2 := fun x y H Q => ∃ ρ G a b, Rep K g ρ G H ∧ RV K g ρ H a x ∧ RV K g ρ H b y ∧ ∃ d G', f a b G = some (d, G') ∧ ∀ v ρ' H', Ext ρ H ρ' H' → Rep K g ρ' G' H' → RV K g ρ' H' d v → Q v H'
abbrev OpF (X : Cx) (g : Tg) (f : Value → Value → Sem Value) (op : O2) : Prop := OpR X f (rF X.K g op)
theorem Po.lift {K : PySem.W.Frag} {g : Tg} {W : WX} {σ : St} {ρ : List Addr} {H : Hp} {o : Option (D × Gh)} {P : D → Gh → List Addr → Hp → Prop} (h : Po K g W σ ρ H (Mi.lift o) P) :
    ∃ d G', o = some (d, G') ∧ ∀ ρ' H', Ext ρ H ρ' H' → Rep K g ρ' G' H' → P d G' ρ' H' := by
  cases o with
  | none => exact h.elim
  | some p => exact ⟨p.1, p.2, rfl, h⟩
section
variable {X : Cx} {g : Tg} {W : WX} {pos : Pos} {a b c : Expr} {ma mb mc : Ev → M D}
theorem bin_run {f : O2} {σ : St} {H : Hp} {Q : VK} (h : tE X.K g W (eOp f ma mb) σ H Q) : tOp (rF X.K g f) (tE X.K g W ma) (tE X.K g W mb) σ H Q := by
  obtain ⟨ρ, env, G, R, E, h⟩ := h
  refine tE_run R E h.bind fun x G1 ρ1 H1 x1 R1 h1 v1 r1 => tE_run R1 (E.ext x1) h1.bind fun y G2 ρ2 H2 x2 R2 h2 v2 r2 => ?_
  obtain ⟨d, G', e, k⟩ := h2.lift
  exact ⟨ρ2, G2, x, y, R2, r1.ext x2, r2, d, G', e, fun v ρ' H' x3 R3 r3 => k ρ' H' x3 R3 v r3⟩
theorem fe_op {op : Operator} {f : O2} (ho : OpF X g (binaryOp op) f) (ha : FE X g W a ma) (hb : FE X g W b mb) : FE X g W (.BinOp a op b pos) (eOp f ma mb) :=
  PE.imp (pe_op ho ha hb) fun _ _ _ h => bin_run h
theorem fe_cmp {op : CmpOp} {f : O2} (ho : OpF X g (compareOp op) f) (ha : FE X g W a ma) (hb : FE X g W b mb) (hm : behindInMarks op b = false) : FE X g W (.Compare a [op] [b] pos) (eOp f ma mb) :=
  PE.imp (pe_cmpR ho ha hb hm) fun _ _ _ h => bin_run h
/-- the answer as a test -/
def asB (m : Ev → M D) : Ev → M Bool := fun env G => (m env G).bind fun d G1 => match d with
  | .bl b => .ok b G1
  | _ => .no
theorem asB_run {m : Ev → M D} {σ : St} {H : Hp} {Q : Bool → Hp → Prop} (h : tT X.K g W (asB m) σ H Q) : tTest (tE X.K g W m) σ H Q := by
  obtain ⟨ρ, env, G, R, E, h⟩ := h
  refine tE_run R E h.bind fun x G1 ρ1 H1 x1 R1 h1 v1 r1 => ?_
  cases x with
  | bl b => exact ⟨b, r1, h1.now R1⟩
  | _ => exact h1.elim
theorem ft_cmp {op : CmpOp} {f : O2} (ho : OpF X g (compareOp op) f) (ha : FE X g W a ma) (hb : FE X g W b mb) (hm : behindInMarks op b = false) : FT X g W (.Compare a [op] [b] pos) (asB (eOp f ma mb)) := by
  refine PT.imp (pt_cmpR ho ha hb hm) fun σ H Q h => ?_
  exact bin_run (asB_run h)
/-- a op b op' c -/
def eChain (f f' : O2) (ma mb mc : Ev → M D) : Ev → M D := fun env G => (ma env G).bind fun x G1 => (mb env G1).bind fun y G2 => (lift (f x y G2)).bind fun z G3 => match z with
  | .bl true => (mc env G3).bind fun w G4 => lift (f' y w G4)
  | .bl false => .ok (.bl false) G3
  | _ => .no
theorem chain_run {f f' : O2} {σ : St} {H : Hp} {Q : VK} (h : tE X.K g W (eChain f f' ma mb mc) σ H Q) : tChain (rF X.K g f) (rF X.K g f') (tE X.K g W ma) (tE X.K g W mb) (tE X.K g W mc) σ H Q := by
  obtain ⟨ρ, env, G, R, E, h⟩ := h
  refine tE_run R E h.bind fun x G1 ρ1 H1 x1 R1 h1 v1 r1 => tE_run R1 (E.ext x1) h1.bind fun y G2 ρ2 H2 x2 R2 h2 v2 r2 => ?_
  obtain ⟨d, G', e, k⟩ := h2.bind.lift
  refine ⟨ρ2, G2, x, y, R2, r1.ext x2, r2, d, G', e, fun z ρ3 H3 x3 R3 r3 => ?_⟩
  have k3 := k ρ3 H3 x3 R3
  cases d with
  | bl t =>
    refine ⟨t, r3, ?_⟩
    cases t with
    | true =>
      rw [if_pos rfl]
      refine tE_run R3 (E.ext ((x1.trans x2).trans x3)) k3.bind fun w G4 ρ4 H4 x4 R4 h4 v4 r4 => ?_
      obtain ⟨d2, G5, e2, k2⟩ := h4.lift
      exact ⟨ρ4, G4, y, w, R4, (r2.ext x3).ext x4, r4, d2, G5, e2, fun v ρ' H' x5 R5 r5 => k2 ρ' H' x5 R5 v r5⟩
    | false =>
      rw [if_neg Bool.false_ne_true]
      exact k3.now R3 _ rfl
  | _ => exact k3.elim
theorem fe_chain {op op' : CmpOp} {f f' : O2} (ho : OpF X g (compareOp op) f) (ho' : OpF X g (compareOp op') f') (ha : FE X g W a ma) (hb : FE X g W b mb) (hc : FE X g W c mc) (hm : lastMarks [op, op'] [b, c] = false := by with_unfolding_all rfl) :
    FE X g W (.Compare a [op, op'] [b, c] pos) (eChain f f' ma mb mc) := PE.imp (pe_chain ho ho' ha hb hc hm) fun _ _ _ h => chain_run h
theorem ft_chain {op op' : CmpOp} {f f' : O2} (ho : OpF X g (compareOp op) f) (ho' : OpF X g (compareOp op') f') (ha : FE X g W a ma) (hb : FE X g W b mb) (hc : FE X g W c mc) (hm : lastMarks [op, op'] [b, c] = false := by with_unfolding_all rfl) :
    FT X g W (.Compare a [op, op'] [b, c] pos) (asB (eChain f f' ma mb mc)) := PT.imp (pt_chain ho ho' ha hb hc hm) fun _ _ _ h => chain_run (asB_run h)
theorem fe_un {op : UnaryOp} {f : D → Gh → Option (D × Gh)} (ho : UnR X (unaryOp op) fun x H Q => ∃ ρ G a, Rep X.K g ρ G H ∧ RV X.K g ρ H a x ∧ ∃ d G', f a G = some (d, G') ∧ ∀ v ρ' H', Ext ρ H ρ' H' → Rep X.K g ρ' G' H' → RV X.K g ρ' H' d v → Q v H') (ha : FE X g W a ma) : FE X g W (.UnaryOp op a pos) (eUn f ma) := by
  refine PE.imp (pe_un ho ha) ?_
  rintro σ H Q ⟨ρ, env, G, R, E, h⟩
  refine tE_run R E h.bind fun x G1 ρ1 H1 x1 R1 h1 v1 r1 => ?_
  obtain ⟨d, G', e, k⟩ := h1.lift
  exact ⟨ρ1, G1, x, R1, r1, d, G', e, fun v ρ' H' x3 R3 r3 => k ρ' H' x3 R3 v r3⟩

/-! ### tests -/
def bNot (m : Ev → M Bool) : Ev → M Bool := fun env G => (m env G).bind fun b G1 => .ok (!b) G1
def bAnd (m m' : Ev → M Bool) : Ev → M Bool := fun env G => (m env G).bind fun b G1 => if b = true then m' env G1 else .ok false G1
def bOr (m m' : Ev → M Bool) : Ev → M Bool := fun env G => (m env G).bind fun b G1 => if b = true then .ok true G1 else m' env G1
variable {na nb nc : Ev → M Bool} {rest : List Expr}
theorem ft_not (ha : FT X g W a na) : FT X g W (.UnaryOp .Not a pos) (bNot na) := by
  refine PT.imp (pt_not ha) ?_
  rintro σ H Q ⟨ρ, env, G, R, E, h⟩
  exact tT_run R E h.bind fun b G1 ρ1 H1 x1 R1 h1 => h1.now R1
theorem fw_and1 (ha : FT X g W a na) : FW X g W (.BoolOp .And [a] pos) na := pw_and1 ha
theorem fw_or1 (ha : FT X g W a na) : FW X g W (.BoolOp .Or [a] pos) na := pw_or1 ha
theorem fw_and (ha : FT X g W a na) (hb : FW X g W (.BoolOp .And (b :: rest) pos) nb) : FW X g W (.BoolOp .And (a :: b :: rest) pos) (bAnd na nb) := by
  refine PW.imp (pw_and ha hb) ?_
  rintro σ H Q ⟨ρ, env, G, R, E, h⟩
  refine tT_run R E h.bind fun b G1 ρ1 H1 x1 R1 h1 => ?_
  cases b with
  | true => rw [if_pos rfl] at h1 ⊢; exact ⟨ρ1, env, G1, R1, E.ext x1, h1⟩
  | false => rw [if_neg Bool.false_ne_true] at h1 ⊢; exact h1.now R1
theorem fw_or (ha : FT X g W a na) (hb : FW X g W (.BoolOp .Or (b :: rest) pos) nb) : FW X g W (.BoolOp .Or (a :: b :: rest) pos) (bOr na nb) := by
  refine PW.imp (pw_or ha hb) ?_
  rintro σ H Q ⟨ρ, env, G, R, E, h⟩
  refine tT_run R E h.bind fun b G1 ρ1 H1 x1 R1 h1 => ?_
  cases b with
  | true => rw [if_pos rfl] at h1 ⊢; exact h1.now R1
  | false => rw [if_neg Bool.false_ne_true] at h1 ⊢; exact ⟨ρ1, env, G1, R1, E.ext x1, h1⟩
/-- a value's truth -/
def truD (d : D) (G : Gh) : Option Bool := match d with
  | .non => some false
  | .bl b => some b
  | .int i => some (i != 0)
  | .str y => if y.length ≤ sizeLine then some ((y.length : Int) != 0) else none
  | .tup xs => some (!xs.isEmpty)
  | .rol xs => some (!xs.isEmpty)
  | .ref i => (match G.ob i with
    | .lst xs => some (!xs.isEmpty)
    | .dct kvs => some (!kvs.isEmpty)
    | _ => none)
  | .cst _ => none
  | .exc _ => none
def tru (m : Ev → M D) : Ev → M Bool := fun env G => (m env G).bind fun d G1 => match truD d G1 with
  | some b => .ok b G1
  | none => .no
theorem RVs.emp {K : PySem.W.Frag} {ρ : List Addr} {H : Hp} {ds : List D} {vs : List V} (h : RVs K g ρ H ds vs) : ds.isEmpty = vs.isEmpty := by
  cases ds with
  | nil => rw [RVs] at h; subst h; rfl
  | cons d ds =>
    rw [RVs] at h
    obtain ⟨v, r, e, _, _⟩ := h
    subst e
    rfl
theorem RM.emp {K : PySem.W.Frag} {ρ : List Addr} {H : Hp} {κ κ' : Type} {f : κ → κ'} {l : List (κ × D)} {ws : List (κ' × V)} (h : RM K g ρ H f l ws) : l.isEmpty = ws.isEmpty := by
  cases l with
  | nil => rw [RM] at h; subst h; rfl
  | cons p r =>
    obtain ⟨k, d⟩ := p
    rw [RM] at h
    obtain ⟨v, q, e, _, _⟩ := h
    subst e
    rfl
theorem Rep.at' {K : PySem.W.Frag} {ρ : List Addr} {G : Gh} {H : Hp} (R : Rep K g ρ G H) {i : Nat} {a : Addr} (e : ρ[i]? = some a) : i < G.n := by
  rw [← R.len]; exact (List.getElem?_eq_some_iff.mp e).1
theorem truV_of {K : PySem.W.Frag} {ρ : List Addr} {G : Gh} {H : Hp} {d : D} {v : V} {b : Bool} (R : Rep K g ρ G H) (r : RV K g ρ H d v) (h : truD d G = some b) : TruV K v H b := by
  cases d with
  | non => cases (show v = .non from r); exact (Option.some.inj h).symm
  | bl c => cases (show v = .bl c from r); exact (Option.some.inj h).symm
  | int c => cases (show v = .int c from r); exact (Option.some.inj h).symm
  | str c =>
    cases (show v = .str c from r)
    unfold truD at h
    dsimp only at h
    split at h
    · exact ⟨by assumption, (Option.some.inj h).symm⟩
    · cases h
  | tup xs =>
    rw [RV] at r
    obtain ⟨a, vs, e, s, q⟩ := r
    subst e
    exact .inr (.inl ⟨vs, s, by rw [← q.emp]; exact (Option.some.inj h).symm⟩)
  | rol xs =>
    rw [RV] at r
    obtain ⟨a, vs, e, s, q⟩ := r
    subst e
    exact .inl ⟨vs, s.seq, by rw [← q.emp]; exact (Option.some.inj h).symm⟩
  | ref i =>
    rw [RV] at r
    obtain ⟨a, e, q⟩ := r
    subst q
    have o := R.obj i a e
    unfold truD at h
    dsimp only at h
    split at h
    · rename_i xs z
      rw [z] at o
      obtain ⟨vs, h1, h2⟩ := o
      exact .inl ⟨vs, .of h1, by rw [← h2.emp]; exact (Option.some.inj h).symm⟩
    · rename_i xs z
      rw [z] at o
      obtain ⟨vs, h1, h2, _⟩ := o
      exact .inr (.inr ⟨vs, h1, by rw [← RM.emp h2]; exact (Option.some.inj h).symm⟩)
    · cases h
  | cst c => cases h
  | exc c => cases h
theorem ft_tru (ha : FE X g W a ma) (he : ∀ whole, isTrue a X.env whole = (do let v ← whole; standAt a.pos; holding [v] (truthy v)) := by intro _; rfl) : FT X g W a (tru ma) := by
  refine PT.imp (pt_truth ha he) ?_
  rintro σ H Q ⟨ρ, env, G, R, E, h⟩
  refine tE_run R E h.bind fun d G1 ρ1 H1 x1 R1 h1 v1 r1 => ?_
  cases z : truD d G1 with
  | none => rw [z] at h1; exact h1.elim
  | some b => rw [z] at h1; exact ⟨b, truV_of R1 r1 z, h1.now R1⟩
/-! ### and, or, not, if as values -/
def eNotV (m : Ev → M D) : Ev → M D := fun env G => (tru m env G).bind fun b G1 => .ok (.bl (!b)) G1
def eAndV (m m' : Ev → M D) : Ev → M D := fun env G => (m env G).bind fun d G1 => match truD d G1 with
  | some true => m' env G1
  | some false => .ok d G1
  | none => .no
def eOrV (m m' : Ev → M D) : Ev → M D := fun env G => (m env G).bind fun d G1 => match truD d G1 with
  | some true => .ok d G1
  | some false => m' env G1
  | none => .no
def eIf (n : Ev → M Bool) (m m' : Ev → M D) : Ev → M D := fun env G => (n env G).bind fun b G1 => if b = true then m env G1 else m' env G1
theorem fe_not (ha : FE X g W a ma) : FE X g W (.UnaryOp .Not a pos) (eNotV ma) := by
  refine PE.imp (pe_notT ha) ?_
  rintro σ H Q ⟨ρ, env, G, R, E, h⟩
  refine tE_run R E h.bind.bind fun d G1 ρ1 H1 x1 R1 h1 v1 r1 => ?_
  cases z : truD d G1 with
  | none => rw [z] at h1; exact h1.elim
  | some b => rw [z] at h1; exact ⟨b, truV_of R1 r1 z, (h1.now R1).now R1 _ rfl⟩
theorem fe_and (ha : FE X g W a ma) (hb : FE X g W (.BoolOp .And (b :: rest) pos) mb) : FE X g W (.BoolOp .And (a :: b :: rest) pos) (eAndV ma mb) := by
  refine PE.imp (pe_andT ha hb) ?_
  rintro σ H Q ⟨ρ, env, G, R, E, h⟩
  refine tE_run R E h.bind fun d G1 ρ1 H1 x1 R1 h1 v1 r1 => ?_
  cases z : truD d G1 with
  | none => rw [z] at h1; exact h1.elim
  | some b =>
    refine ⟨b, truV_of R1 r1 z, ?_⟩
    cases b with
    | true => rw [z] at h1; rw [if_pos rfl]; exact ⟨ρ1, env, G1, R1, E.ext x1, h1⟩
    | false => rw [z] at h1; rw [if_neg Bool.false_ne_true]; exact h1.now R1 _ r1
theorem fe_or (ha : FE X g W a ma) (hb : FE X g W (.BoolOp .Or (b :: rest) pos) mb) : FE X g W (.BoolOp .Or (a :: b :: rest) pos) (eOrV ma mb) := by
  refine PE.imp (pe_orT ha hb) ?_
  rintro σ H Q ⟨ρ, env, G, R, E, h⟩
  refine tE_run R E h.bind fun d G1 ρ1 H1 x1 R1 h1 v1 r1 => ?_
  cases z : truD d G1 with
  | none => rw [z] at h1; exact h1.elim
  | some b =>
    refine ⟨b, truV_of R1 r1 z, ?_⟩
    cases b with
    | true => rw [z] at h1; rw [if_pos rfl]; exact h1.now R1 _ r1
    | false => rw [z] at h1; rw [if_neg Bool.false_ne_true]; exact ⟨ρ1, env, G1, R1, E.ext x1, h1⟩
theorem fe_one {op : PySem.BoolOp} (ha : FE X g W a ma) : FE X g W (.BoolOp op [a] pos) ma := pe_one ha
theorem fe_if {t : Expr} (ht : FT X g W t na) (ha : FE X g W a ma) (hb : FE X g W b mb) : FE X g W (.IfExp t a b pos) (eIf na ma mb) := by
  refine PE.imp (pe_ifExp ht ha hb) ?_
  rintro σ H Q ⟨ρ, env, G, R, E, h⟩
  refine tT_run R E h.bind fun b G1 ρ1 H1 x1 R1 h1 => ?_
  cases b with
  | true => rw [if_pos rfl] at h1 ⊢; exact ⟨ρ1, env, G1, R1, E.ext x1, h1⟩
  | false => rw [if_neg Bool.false_ne_true] at h1 ⊢; exact ⟨ρ1, env, G1, R1, E.ext x1, h1⟩

/-! ### argument lists, displays -/
def aNil : Ev → M (List D) := fun _ G => .ok [] G
def aCons (m : Ev → M D) (n : Ev → M (List D)) : Ev → M (List D) := fun env G => (m env G).bind fun d G1 => (n env G1).bind fun ds G2 => .ok (d :: ds) G2
variable {es : List Expr} {ms : Ev → M (List D)} {e : Expr}
theorem fa_nil : FA X g W [] aNil := by
  refine PA.imp pa_nil ?_
  rintro σ H Q ⟨ρ, env, G, R, E, h⟩
  exact h.now R _ .nil
theorem fa_cons (ha : FE X g W e ma) (hr : FA X g W es ms) (hs : starEach (e :: es) X.env = (false, eval e X.env) :: starEach es X.env := by rfl) : FA X g W (e :: es) (aCons ma ms) := by
  refine PA.imp (pa_cons ha hr hs) ?_
  rintro σ H Q ⟨ρ, env, G, R, E, h⟩
  refine tE_run R E h.bind fun x G1 ρ1 H1 x1 R1 h1 v1 r1 => tA_run R1 (E.ext x1) h1.bind fun xs G2 ρ2 H2 x2 R2 h2 vs r2 => ?_
  exact h2.now R2 _ (.cons (r1.ext x2) r2)
def eTup (n : Ev → M (List D)) : Ev → M D := fun env G => (n env G).bind fun ds G1 => if ds.length ≤ sizeLine then .ok (.tup ds) G1 else .no
def eLst (n : Ev → M (List D)) : Ev → M D := fun env G => (n env G).bind fun ds G1 => if ds.length ≤ sizeLine then .ok (.ref G1.n) (G1.push (.lst ds)) else .no
/-- a new tuple at p -/
theorem tup_new {K : PySem.W.Frag} {ρ : List Addr} {G : Gh} {H : Hp} {ds : List D} {vs : List V} {p : Addr} (R : Rep K g ρ G H) (r : RVs K g ρ H ds vs) (h : H p = none) :
    Ext ρ H ρ (upd H p (.tup vs)) ∧ Rep K g ρ G (upd H p (.tup vs)) ∧ RV K g ρ (upd H p (.tup vs)) (.tup ds) (.ref p) := by
  have x : Ext ρ H ρ (upd H p (.tup vs)) := ⟨fun _ _ z => z, .new h⟩
  refine ⟨x, R.grow h, ?_⟩
  rw [RV]
  exact ⟨p, vs, rfl, .of upd_same, r.ext x⟩
theorem lst_new {K : PySem.W.Frag} {ρ : List Addr} {G : Gh} {H : Hp} {ds : List D} {vs : List V} {p : Addr} (R : Rep K g ρ G H) (r : RVs K g ρ H ds vs) (h : H p = none) :
    Ext ρ H (ρ ++ [p]) (upd H p (.lst vs)) ∧ Rep K g (ρ ++ [p]) (G.push (.lst ds)) (upd H p (.lst vs)) ∧ RV K g (ρ ++ [p]) (upd H p (.lst vs)) (.ref G.n) (.ref p) := by
  have x : Ext ρ H (ρ ++ [p]) (upd H p (.lst vs)) := ⟨fun i a e => by rw [List.getElem?_append_left (List.getElem?_eq_some_iff.mp e).1]; exact e, .new h⟩
  obtain ⟨R', _, q⟩ := R.new (ob := .lst ds) h ⟨vs, upd_same, r.ext x⟩
  refine ⟨x, R', ?_⟩
  rw [RV]
  exact ⟨p, q, rfl⟩
theorem fe_tup {x1} (h : FA X g W es ms) : FE X g W (.Tuple es x1 pos) (eTup ms) := by
  refine PE.imp (pe_tup h) ?_
  rintro σ H Q ⟨ρ, env, G, R, E, h⟩
  refine tA_run R E h.bind fun ds G1 ρ1 H1 x1 R1 h1 vs r1 => ?_
  split at h1
  · rename_i hz
    refine ⟨by rw [r1.len]; exact hz, fun p hp => ?_⟩
    obtain ⟨x2, R2, r2⟩ := tup_new R1 r1 hp
    exact h1 ρ1 _ x2 R2 _ r2
  · exact h1.elim
theorem fe_lst (h : FA X g W es ms) : FE X g W (.List es pos) (eLst ms) := by
  refine PE.imp (pe_lst h) ?_
  rintro σ H Q ⟨ρ, env, G, R, E, h⟩
  refine tA_run R E h.bind fun ds G1 ρ1 H1 x1 R1 h1 vs r1 => ?_
  split at h1
  · rename_i hz
    refine ⟨by rw [r1.len]; exact hz, fun p hp => ?_⟩
    obtain ⟨x2, R2, r2⟩ := lst_new R1 r1 hp
    exact h1 _ _ x2 R2 _ r2
  · exact h1.elim
end
end Mi
/-! F, part 3: operators by values. -/
namespace Mi
open PySem PySem.Spec PyProof.Rows L2

/-! ### tables -/
section
variable {κ : Type} [DecidableEq κ]
def valD : List (κ × D) → κ → Option D
  | [], _ => none
  | (j, d) :: r, k => if j = k then some d else valD r k
def putD : List (κ × D) → κ → D → List (κ × D)
  | [], k, d => [(k, d)]
  | (j, e) :: r, k, d => if j = k then (j, d) :: r else (j, e) :: putD r k d
variable {K : PySem.W.Frag} {g : Tg} {ρ : List Addr} {H : Hp}
theorem RM.val {k : κ} : ∀ {l : List (κ × D)} {ws : List (κ × V)}, RM K g ρ H id l ws → (∀ d, valD l k = some d → ∃ v, valV ws k = some v ∧ RV K g ρ H d v) ∧ (valD l k = none → valV ws k = none)
  | [], _, h => by rw [RM] at h; subst h; exact ⟨(fun _ e => by cases e), fun _ => rfl⟩
  | (j, d) :: r, _, h => by
    rw [RM] at h
    obtain ⟨v, q, e, h1, h2⟩ := h
    subst e
    obtain ⟨i1, i2⟩ := RM.val (k := k) h2
    by_cases z : j = k
    · refine ⟨fun d' e => ⟨v, valV_pos (p := (id j, v)) z, ?_⟩, fun e => ?_⟩
      · rw [valD, if_pos z] at e; cases e; exact h1
      · rw [valD, if_pos z] at e; cases e
    · refine ⟨fun d' e => ?_, fun e => ?_⟩
      · rw [valD, if_neg z] at e
        obtain ⟨w, e1, r1⟩ := i1 d' e
        exact ⟨w, (valV_neg (p := (id j, v)) z).trans e1, r1⟩
      · rw [valD, if_neg z] at e
        exact (valV_neg (p := (id j, v)) z).trans (i2 e)
theorem RM.len {κ κ' : Type} {f : κ → κ'} : ∀ {l : List (κ × D)} {ws : List (κ' × V)}, RM K g ρ H f l ws → ws.length = l.length
  | [], _, h => by rw [RM] at h; subst h; rfl
  | (j, d) :: r, _, h => by
    rw [RM] at h
    obtain ⟨v, q, e, h1, h2⟩ := h
    subst e
    rw [List.length_cons, List.length_cons, RM.len h2]
theorem RM.some_iff {k : κ} {l : List (κ × D)} {ws : List (κ × V)} (h : RM K g ρ H id l ws) : (valV ws k).isSome = (valD l k).isSome := by
  obtain ⟨i1, i2⟩ := RM.val (k := k) h
  cases e : valD l k with
  | none => rw [i2 e] <;> rfl
  | some d => obtain ⟨v, e1, _⟩ := i1 d e; rw [e1] <;> rfl
theorem RM.putA {k : κ} {d : D} {v : V} (r : RV K g ρ H d v) : ∀ {l : List (κ × D)} {ws : List (κ × V)}, RM K g ρ H id l ws → valD l k = none → RM K g ρ H id (putD l k d) (ws ++ [(k, v)])
  | [], _, h, _ => by
    rw [RM] at h; subst h
    rw [putD, RM]
    exact ⟨v, [], rfl, r, by rw [RM]⟩
  | (j, e) :: t, _, h, n => by
    rw [RM] at h
    obtain ⟨w, q, z, h1, h2⟩ := h
    subst z
    by_cases z : j = k
    · rw [valD, if_pos z] at n; cases n
    · rw [valD, if_neg z] at n
      rw [putD, if_neg z, List.cons_append, RM]
      exact ⟨w, _, rfl, h1, RM.putA r h2 n⟩
end

/-! ### ints, texts, lists, tuples -/
def opAdd : O2 := fun x y G => match x, y with
  | .int i, .int j => some (.int (i + j), G)
  | .str a, .str b => if a.length + b.length ≤ sizeLine then some (.str (a ++ b), G) else none
  | .ref i, .ref j => (match G.ob i, G.ob j with
    | .lst xs, .lst ys => if xs.length + ys.length ≤ sizeLine then some (.ref G.n, G.push (.lst (xs ++ ys))) else none
    | _, _ => none)
  | .tup xs, .tup ys => if xs.isEmpty = false ∧ ys.isEmpty = false ∧ xs.length + ys.length ≤ sizeLine then some (.tup (xs ++ ys), G) else none
  | _, _ => none
def opSub : O2 := fun x y G => match x, y with
  | .int i, .int j => some (.int (i - j), G)
  | _, _ => none
instance (i j : Int) : Decidable (CMul i j) := inferInstanceAs (Decidable (_ ∨ _))
def opMul : O2 := fun x y G => match x, y with
  | .int i, .int j => if CMul i j then some (.int (i * j), G) else none
  | .ref i, .int k => (match G.ob i with
    | .lst xs => if -(2 ^ 63) ≤ k ∧ k < 2 ^ 63 ∧ xs.length * k.toNat ≤ sizeLine then some (.ref G.n, G.push (.lst (List.replicate k.toNat xs).flatten)) else none
    | _ => none)
  | _, _ => none
def opFdiv : O2 := fun x y G => match x, y with
  | .int i, .int j => if 0 < j ∧ j.natAbs.log2 < 9000 then some (.int (i / j), G) else none
  | _, _ => none
def opMod : O2 := fun x y G => match x, y with
  | .int i, .int j => if 0 < j then some (.int (i % j), G) else none
  | _, _ => none
def opPow : O2 := fun x y G => match x, y with
  | .int i, .int j => if 0 ≤ j ∧ j ≤ 1000000 ∧ i.natAbs < 2 ^ 64 then some (.int (i ^ j.toNat), G) else none
  | _, _ => none
def cmpO (p : Int → Int → Bool) (q : Str → Str → Bool) : O2 := fun x y G => match x, y with
  | .int i, .int j => some (.bl (p i j), G)
  | .str a, .str b => some (.bl (q a b), G)
  | _, _ => none
def opLt : O2 := cmpO (fun i j => decide (i < j)) fun a b => decide (a.cps.toList < b.cps.toList)
def opLe : O2 := cmpO (fun i j => decide (i ≤ j)) fun a b => !decide (b.cps.toList < a.cps.toList)
def opGt : O2 := cmpO (fun i j => decide (j < i)) fun a b => decide (b.cps.toList < a.cps.toList)
def opGe : O2 := cmpO (fun i j => decide (j ≤ i)) fun a b => !decide (a.cps.toList < b.cps.toList)
/-! == -/
def scalD : D → D → Option Bool
  | .non, .non => some true | .non, .int _ => some false | .int _, .non => some false | .non, .bl _ => some false | .bl _, .non => some false | .non, .str _ => some false | .str _, .non => some false
  | .int i, .int j => some (decide (i = j)) | .bl i, .bl j => some (decide (i = j)) | .str i, .str j => some (decide (i = j))
  | .int _, .str _ => some false | .str _, .int _ => some false | .bl _, .str _ => some false | .str _, .bl _ => some false
  | _, _ => none
def mapO {α β : Type} (f : α → Option β) : List α → Option (List β)
  | [] => some []
  | x :: xs => (match f x, mapO f xs with
    | some p, some ps => some (p :: ps)
    | _, _ => none)
def toP (G : Gh) : Nat → D → Option PyData
  | 0, _ => none
  | _ + 1, .non => some .none
  | _ + 1, .bl b => some (.bool b)
  | _ + 1, .int i => some (.int i)
  | _ + 1, .str x => some (.str x)
  | n + 1, .tup xs => (mapO (toP G n) xs).map .tuple
  | n + 1, .rol xs => (mapO (toP G n) xs).map .list
  | n + 1, .ref i => (match G.ob i with
    | .lst xs => (mapO (toP G n) xs).map .list
    | _ => none)
  | _ + 1, .cst _ => none
  | _ + 1, .exc _ => none
def eqD (x y : D) (G : Gh) : Option Bool := match scalD x y with
  | some b => some b
  | none => (match toP G 20 x, toP G 20 y with
    | some d, some e => if (SeqAt.shaped d && SeqAt.shaped e) = true then some (PyData.eqv d e) else none
    | _, _ => none)
def opEq : O2 := fun x y G => (eqD x y G).map fun b => (.bl b, G)
def opNe : O2 := fun x y G => (eqD x y G).map fun b => (.bl (!b), G)
def isNon : D → Bool
  | .non => true
  | _ => false
def opIs : O2 := fun x y G => match y with
  | .non => some (.bl (isNon x), G)
  | _ => none
def opIsNot : O2 := fun x y G => match y with
  | .non => some (.bl (!isNon x), G)
  | _ => none
/-! in -/
def keyD : D → Option Key
  | .int i => some (.inl i)
  | .str x => some (.inr x)
  | _ => none
/-- the flat ones -/
def flatD : D → Bool
  | .non => true | .bl _ => true | .int _ => true | .str _ => true
  | _ => false
def eqF : D → D → Bool
  | .non, .non => true
  | .bl a, .bl b => a == b
  | .bl a, .int b => (if a then 1 else 0) == b
  | .int a, .bl b => a == (if b then 1 else 0)
  | .int a, .int b => a == b
  | .str a, .str b => a == b
  | _, _ => false
def inD (x : D) (xs : List D) : Option Bool := if flatD x = true ∧ xs.all flatD = true then some (xs.any fun y => eqF y x) else none
def memD (x y : D) (G : Gh) : Option Bool := match y with
  | .str z => (match x with
    | .str c => (match c.cps.toList with
      | [n] => some (decide (n ∈ z.cps.toList))
      | _ => none)
    | _ => none)
  | .tup xs => inD x xs
  | .rol xs => inD x xs
  | .ref i => (match G.ob i with
    | .lst xs => inD x xs
    | .dct kvs => (keyD x).map fun k => (valD kvs k).isSome
    | .lk kvs => (keyD x).map fun k => (valD kvs k).isSome
    | _ => none)
  | _ => none
def opIn : O2 := fun x y G => (memD x y G).map fun b => (.bl b, G)
def opNotIn : O2 := fun x y G => (memD x y G).map fun b => (.bl (!b), G)

/-! ### they are what Python does -/
section
variable {X : Cx} {g : Tg}
theorem of_add : OpF X g (binaryOp .Add) opAdd := by
  intro pins s σ H x y v u Q I rx ry hh
  obtain ⟨ρ, G, a, b, R, ra, rb, d, G', e, k⟩ := hh
  unfold opAdd at e
  split at e
  · cases (show x = .int _ from ra); cases (show y = .int _ from rb); cases e
    exact op_add pins s σ H _ _ v u Q I rx ry ⟨_, _, rfl, rfl, k _ ρ H (.refl _ _) R rfl⟩
  · cases (show x = .str _ from ra); cases (show y = .str _ from rb)
    split at e
    · cases e
      exact op_add_str pins s σ H _ _ v u Q I rx ry ⟨_, _, rfl, rfl, by assumption, k _ ρ H (.refl _ _) R rfl⟩
    · cases e
  · rename_i i j
    rw [RV] at ra rb
    obtain ⟨a1, e1, q1⟩ := ra
    obtain ⟨a2, e2, q2⟩ := rb
    subst q1; subst q2
    have o1 := R.obj _ _ e1
    have o2 := R.obj _ _ e2
    split at e
    · rename_i xs ys z1 z2
      rw [z1] at o1; rw [z2] at o2
      obtain ⟨vs, h1, r1⟩ := o1
      obtain ⟨ws, h2, r2⟩ := o2
      split at e
      · rename_i hz
        cases e
        refine op_cat pins s σ H _ _ v u Q I rx ry ⟨a1, a2, vs, ws, rfl, rfl, h1, h2, by rw [r1.len, r2.len]; exact hz, fun p hp => ?_⟩
        obtain ⟨x2, R2, r3⟩ := lst_new R (r1.app r2) hp
        exact k _ _ _ x2 R2 r3
      · cases e
    · cases e
  · rename_i xs ys
    rw [RV] at ra rb
    obtain ⟨a1, vs, q1, s1, r1⟩ := ra
    obtain ⟨a2, ws, q2, s2, r2⟩ := rb
    subst q1; subst q2
    split at e
    · rename_i hz
      cases e
      have n1 : vs.isEmpty = false := by rw [← r1.emp]; exact hz.1
      have n2 : ws.isEmpty = false := by rw [← r2.emp]; exact hz.2.1
      refine op_catT pins s σ H _ _ v u Q I rx ry ⟨a1, a2, vs, ws, rfl, rfl, s1, s2, ?_, by rw [r1.len, r2.len]; exact hz.2.2, fun q => ?_, fun _ p hp => ?_⟩
      · intro q; subst q; cases n1
      · subst q; cases n2
      · obtain ⟨x2, R2, r3⟩ := tup_new R (r1.app r2) hp
        exact k _ _ _ x2 R2 r3
    · cases e
  · cases e
theorem of_sub : OpF X g (binaryOp .Sub) opSub := by
  intro pins s σ H x y v u Q I rx ry hh
  obtain ⟨ρ, G, a, b, R, ra, rb, d, G', e, k⟩ := hh
  unfold opSub at e
  split at e
  · cases (show x = .int _ from ra); cases (show y = .int _ from rb); cases e
    exact op_sub pins s σ H _ _ v u Q I rx ry ⟨_, _, rfl, rfl, k _ ρ H (.refl _ _) R rfl⟩
  · cases e
theorem of_mul : OpF X g (binaryOp .Mult) opMul := by
  intro pins s σ H x y v u Q I rx ry hh
  obtain ⟨ρ, G, a, b, R, ra, rb, d, G', e, k⟩ := hh
  unfold opMul at e
  split at e
  · cases (show x = .int _ from ra); cases (show y = .int _ from rb)
    split at e
    · cases e
      exact op_mul pins s σ H _ _ v u Q I rx ry ⟨_, _, rfl, rfl, by assumption, k _ ρ H (.refl _ _) R rfl⟩
    · cases e
  · rename_i i j
    rw [RV] at ra
    obtain ⟨a1, e1, q1⟩ := ra
    subst q1
    cases (show y = .int _ from rb)
    have o1 := R.obj _ _ e1
    split at e
    · rename_i xs z1
      rw [z1] at o1
      obtain ⟨vs, h1, r1⟩ := o1
      split at e
      · rename_i hz
        cases e
        refine op_rep pins s σ H _ _ v u Q I rx ry ⟨a1, j, vs, rfl, rfl, h1, hz.1, hz.2.1, by rw [r1.len]; exact hz.2.2, fun p hp => ?_⟩
        have r3 : ∀ m : Nat, RVs X.K g ρ H (List.replicate m xs).flatten (List.replicate m vs).flatten := fun m => by
          induction m with
          | zero => exact .nil
          | succ m ih =>
            rw [List.replicate_succ, List.replicate_succ, List.flatten_cons, List.flatten_cons]
            exact r1.app ih
        obtain ⟨x2, R2, r4⟩ := lst_new R (r3 j.toNat) hp
        exact k _ _ _ x2 R2 r4
      · cases e
    · cases e
  · cases e
theorem of_fdiv : OpF X g (binaryOp .FloorDiv) opFdiv := by
  intro pins s σ H x y v u Q I rx ry hh
  obtain ⟨ρ, G, a, b, R, ra, rb, d, G', e, k⟩ := hh
  unfold opFdiv at e
  split at e
  · cases (show x = .int _ from ra); cases (show y = .int _ from rb)
    split at e
    · cases e
      exact op_fdivW pins s σ H _ _ v u Q I rx ry ⟨_, _, rfl, rfl, by assumption, k _ ρ H (.refl _ _) R rfl⟩
    · cases e
  · cases e
theorem of_mod : OpF X g (binaryOp .Mod) opMod := by
  intro pins s σ H x y v u Q I rx ry hh
  obtain ⟨ρ, G, a, b, R, ra, rb, d, G', e, k⟩ := hh
  unfold opMod at e
  split at e
  · cases (show x = .int _ from ra); cases (show y = .int _ from rb)
    split at e
    · cases e
      exact op_mod pins s σ H _ _ v u Q I rx ry ⟨_, _, rfl, rfl, by assumption, k _ ρ H (.refl _ _) R rfl⟩
    · cases e
  · cases e
theorem of_pow : OpF X g (binaryOp .Pow) opPow := by
  intro pins s σ H x y v u Q I rx ry hh
  obtain ⟨ρ, G, a, b, R, ra, rb, d, G', e, k⟩ := hh
  unfold opPow at e
  split at e
  · cases (show x = .int _ from ra); cases (show y = .int _ from rb)
    split at e
    · cases e
      exact op_pow pins s σ H _ _ v u Q I rx ry ⟨_, _, rfl, rfl, by assumption, k _ ρ H (.refl _ _) R rfl⟩
    · cases e
  · cases e
theorem of_cmpO {f : Value → Value → Sem Value} {p : Int → Int → Bool} {q : Str → Str → Bool} (h1 : OpR X f (rI0 fun i j => .bl (p i j))) (h2 : OpR X f (fun x y H Q => ∃ i j, x = .str i ∧ y = .str j ∧ Q (.bl (q i j)) H)) : OpF X g f (cmpO p q) := by
  intro pins s σ H x y v u Q I rx ry hh
  obtain ⟨ρ, G, a, b, R, ra, rb, d, G', e, k⟩ := hh
  unfold cmpO at e
  split at e
  · cases (show x = .int _ from ra); cases (show y = .int _ from rb); cases e
    exact h1 pins s σ H _ _ v u Q I rx ry ⟨_, _, rfl, rfl, k _ ρ H (.refl _ _) R rfl⟩
  · cases (show x = .str _ from ra); cases (show y = .str _ from rb); cases e
    exact h2 pins s σ H _ _ v u Q I rx ry ⟨_, _, rfl, rfl, k _ ρ H (.refl _ _) R rfl⟩
  · cases e
theorem of_lt : OpF X g (compareOp .Lt) opLt := of_cmpO op_lt op_lt_str
theorem of_le : OpF X g (compareOp .LtE) opLe := of_cmpO op_le op_le_str
theorem of_gt : OpF X g (compareOp .Gt) opGt := of_cmpO op_gt op_gt_str
theorem of_ge : OpF X g (compareOp .GtE) opGe := of_cmpO op_ge op_ge_str
/-! == -/
theorem scal_of {K : PySem.W.Frag} {ρ : List Addr} {H : Hp} {a b : D} {x y : V} {c : Bool} (ra : RV K g ρ H a x) (rb : RV K g ρ H b y) (e : scalD a b = some c) : scal x y = true ∧ decide (x = y) = c := by
  unfold scalD at e
  split at e <;> first
    | (cases e; done)
    | (cases e
       first
         | (cases (show x = .non from ra)) | (cases (show x = .int _ from ra)) | (cases (show x = .bl _ from ra)) | (cases (show x = .str _ from ra))
       first
         | (cases (show y = .non from rb)) | (cases (show y = .int _ from rb)) | (cases (show y = .bl _ from rb)) | (cases (show y = .str _ from rb))
       exact ⟨rfl, by simp⟩)
theorem mapO_ok {K : PySem.W.Frag} {ρ : List Addr} {H : Hp} {f : D → Option PyData} (hf : ∀ d v p, RV K g ρ H d v → f d = some p → Dp K H v p) : ∀ ds vs ps, RVs K g ρ H ds vs → mapO f ds = some ps → DpAll K H vs ps
  | [], vs, ps, r, e => by cases e; rw [RVs] at r; subst r; exact .nil
  | d :: ds, vs, ps, r, e => by
    rw [RVs] at r
    obtain ⟨v, w, q, r1, r2⟩ := r
    subst q
    rw [mapO] at e
    split at e
    · rename_i p ps' e1 e2
      cases e
      exact .cons (hf _ _ _ r1 e1) (mapO_ok hf ds _ _ r2 e2)
    · cases e
theorem toP_ok {K : PySem.W.Frag} {ρ : List Addr} {G : Gh} {H : Hp} (R : Rep K g ρ G H) : ∀ (n : Nat) d v p, RV K g ρ H d v → toP G n d = some p → Dp K H v p := by
  intro n
  induction n with
  | zero => intro d v p _ e; cases d <;> cases e
  | succ n ih =>
    intro d v p r e
    cases d with
    | non => cases e; cases (show v = .non from r); exact .non
    | bl b => cases e; cases (show v = .bl b from r); exact .bl b
    | int b => cases e; cases (show v = .int b from r); exact .int b
    | str b => cases e; cases (show v = .str b from r); exact .str b
    | tup xs =>
      rw [toP] at e
      obtain ⟨ps, e1, e2⟩ := Option.map_eq_some_iff.mp e
      subst e2
      rw [RV] at r
      obtain ⟨a, vs, q, s, r1⟩ := r
      subst q
      exact .tup s (mapO_ok ih _ _ _ r1 e1)
    | rol xs =>
      rw [toP] at e
      obtain ⟨ps, e1, e2⟩ := Option.map_eq_some_iff.mp e
      subst e2
      rw [RV] at r
      obtain ⟨a, vs, q, s, r1⟩ := r
      subst q
      exact .lst s.seq (mapO_ok ih _ _ _ r1 e1)
    | ref i =>
      rw [toP] at e
      rw [RV] at r
      obtain ⟨a, q, z⟩ := r
      subst z
      have o := R.obj _ _ q
      split at e
      · rename_i xs z
        rw [z] at o
        obtain ⟨vs, h1, r1⟩ := o
        obtain ⟨ps, e1, e2⟩ := Option.map_eq_some_iff.mp e
        subst e2
        exact .lst (.of h1) (mapO_ok ih _ _ _ r1 e1)
      · cases e
    | cst c => cases e
    | exc c => cases e
theorem of_eq (hu : X.A.units + 64 < cLine) : OpF X g (compareOp .Eq) opEq := by
  intro pins s σ H x y v u Q I rx ry hh
  obtain ⟨ρ, G, a, b, R, ra, rb, d, G', e, k⟩ := hh
  unfold opEq at e
  obtain ⟨c, e1, e2⟩ := Option.map_eq_some_iff.mp e
  cases e2
  have kk := k (.bl c) ρ H (.refl _ _) R rfl
  unfold eqD at e1
  split at e1
  · rename_i c' z
    cases e1
    obtain ⟨h1, h2⟩ := scal_of ra rb z
    exact op_eq pins s σ H _ _ v u Q I rx ry ⟨h1, by rw [h2]; exact kk⟩
  · split at e1
    · rename_i d1 d2 z1 z2
      split at e1
      · rename_i hs
        cases e1
        obtain ⟨s1, s2⟩ := Bool.and_eq_true_iff.mp hs
        exact op_eqD hu pins s σ H _ _ v u Q I rx ry ⟨d1, d2, toP_ok R 20 _ _ _ ra z1, toP_ok R 20 _ _ _ rb z2, s1, s2, kk⟩
      · cases e1
    · cases e1
theorem of_ne (hu : X.A.units + 64 < cLine) : OpF X g (compareOp .NotEq) opNe := by
  intro pins s σ H x y v u Q I rx ry hh
  obtain ⟨ρ, G, a, b, R, ra, rb, d, G', e, k⟩ := hh
  unfold opNe at e
  obtain ⟨c, e1, e2⟩ := Option.map_eq_some_iff.mp e
  cases e2
  have kk := k (.bl (!c)) ρ H (.refl _ _) R rfl
  unfold eqD at e1
  split at e1
  · rename_i c' z
    cases e1
    obtain ⟨h1, h2⟩ := scal_of ra rb z
    exact op_ne pins s σ H _ _ v u Q I rx ry ⟨h1, by rw [h2]; exact kk⟩
  · split at e1
    · rename_i d1 d2 z1 z2
      split at e1
      · rename_i hs
        cases e1
        obtain ⟨s1, s2⟩ := Bool.and_eq_true_iff.mp hs
        exact op_neD hu pins s σ H _ _ v u Q I rx ry ⟨d1, d2, toP_ok R 20 _ _ _ ra z1, toP_ok R 20 _ _ _ rb z2, s1, s2, kk⟩
      · cases e1
    · cases e1
theorem isNon_of {K : PySem.W.Frag} {ρ : List Addr} {H : Hp} {a : D} {x : V} (ra : RV K g ρ H a x) : isNon a = decide (x = .non) := by
  cases a with
  | non => cases (show x = .non from ra); rfl
  | bl b => cases (show x = .bl b from ra); rfl
  | int b => cases (show x = .int b from ra); rfl
  | str b => cases (show x = .str b from ra); rfl
  | tup xs => rw [RV] at ra; obtain ⟨_, _, q, _⟩ := ra; subst q; rfl
  | rol xs => rw [RV] at ra; obtain ⟨_, _, q, _⟩ := ra; subst q; rfl
  | ref i => rw [RV] at ra; obtain ⟨_, _, q⟩ := ra; subst q; rfl
  | cst c => cases (show x = .ref _ from ra); rfl
  | exc c => cases (show x = .ref _ from ra); rfl
theorem of_is : OpF X g (compareOp .Is) opIs := by
  intro pins s σ H x y v u Q I rx ry hh
  obtain ⟨ρ, G, a, b, R, ra, rb, d, G', e, k⟩ := hh
  unfold opIs at e
  split at e
  · cases e
    exact op_isN pins s σ H _ _ v u Q I rx ry ⟨rb, by rw [← isNon_of ra]; exact k _ ρ H (.refl _ _) R rfl⟩
  · cases e
theorem of_isNot : OpF X g (compareOp .IsNot) opIsNot := by
  intro pins s σ H x y v u Q I rx ry hh
  obtain ⟨ρ, G, a, b, R, ra, rb, d, G', e, k⟩ := hh
  unfold opIsNot at e
  split at e
  · cases e
    exact op_notN pins s σ H _ _ v u Q I rx ry ⟨rb, by rw [← isNon_of ra]; exact k _ ρ H (.refl _ _) R rfl⟩
  · cases e
/-! in -/
theorem flat_of {K : PySem.W.Frag} {ρ : List Addr} {H : Hp} {a : D} {x : V} (ra : RV K g ρ H a x) (h : flatD a = true) : flatV x = true := by
  cases a with
  | non => cases (show x = .non from ra); rfl
  | bl b => cases (show x = .bl b from ra); rfl
  | int b => cases (show x = .int b from ra); rfl
  | str b => cases (show x = .str b from ra); rfl
  | _ => cases h
theorem eqF_of {K : PySem.W.Frag} {ρ : List Addr} {H : Hp} {a b : D} {x y : V} (ra : RV K g ρ H a x) (rb : RV K g ρ H b y) (h : flatD a = true) (h2 : flatD b = true) : eqV x y = eqF a b := by
  cases a <;> first
    | (cases h; done)
    | (cases b <;> first
        | (cases h2; done)
        | (first
            | (cases (show x = .non from ra)) | (cases (show x = .int _ from ra)) | (cases (show x = .bl _ from ra)) | (cases (show x = .str _ from ra))
           first
            | (cases (show y = .non from rb)) | (cases (show y = .int _ from rb)) | (cases (show y = .bl _ from rb)) | (cases (show y = .str _ from rb))
           rfl))
theorem inD_of {K : PySem.W.Frag} {ρ : List Addr} {H : Hp} {a : D} {x : V} {c : Bool} (ra : RV K g ρ H a x) : ∀ {xs : List D} {vs : List V}, RVs K g ρ H xs vs → inD a xs = some c → flatV x = true ∧ vs.all flatV = true ∧ inV x vs = c := by
  intro xs vs r h
  unfold inD at h
  split at h
  · rename_i hf
    obtain ⟨f1, f2⟩ := hf
    have h1 := Option.some.inj h
    subst h1
    refine ⟨flat_of ra f1, ?_⟩
    clear h
    induction xs generalizing vs with
    | nil => rw [RVs] at r; subst r; exact ⟨rfl, rfl⟩
    | cons d ds ih =>
      rw [RVs] at r
      obtain ⟨v, w, q, r1, r2⟩ := r
      subst q
      rw [List.all_cons, Bool.and_eq_true] at f2
      obtain ⟨i1, i2⟩ := ih r2 f2.2
      refine ⟨by rw [List.all_cons, flat_of r1 f2.1, i1]; rfl, ?_⟩
      show (eqV v x || inV x w) = (eqF d a || ds.any fun y => eqF y a)
      rw [eqF_of r1 ra f2.1 f1, i2]
  · cases h
theorem key_of' {K : PySem.W.Frag} {ρ : List Addr} {H : Hp} {a : D} {x : V} {k : Key} (ra : RV K g ρ H a x) (h : keyD a = some k) : x = kV k := by
  cases a with
  | int b => cases (show x = .int b from ra); cases h; rfl
  | str b => cases (show x = .str b from ra); cases h; rfl
  | _ => cases h
theorem op_din (hu : X.A.units + 1 < cLine) : OpR X (compareOp .In) (fun y x H Q => ∃ a o, x = .ref a ∧ DGet H a y o ∧ Q (.bl o.isSome) H) := by
  intro pins s σ H x y v u Q I rx ry h
  obtain ⟨a, o, e, hg, q⟩ := h
  subst e
  obtain rfl : u = Value.ref a := ry
  exact d_in hu I hg rx fun s3 I3 => ⟨.bl o.isSome, H, I3, rfl, q⟩
theorem op_dnotin (hu : X.A.units + 1 < cLine) : OpR X (compareOp .NotIn) (fun y x H Q => ∃ a o, x = .ref a ∧ DGet H a y o ∧ Q (.bl (!o.isSome)) H) := by
  intro pins s σ H x y v u Q I rx ry h
  obtain ⟨a, o, e, hg, q⟩ := h
  subst e
  obtain rfl : u = Value.ref a := ry
  exact d_notIn hu I hg rx fun s3 I3 => ⟨.bl (!o.isSome), H, I3, rfl, q⟩
theorem of_mem {f : Value → Value → Sem Value} {n : Bool → Bool} (h1 : OpR X f fun x y H Q => ∃ (c : Nat) (z : Str), x = .str ⟨#[c]⟩ ∧ y = .str z ∧ Q (.bl (n (decide (c ∈ z.cps.toList)))) H)
    (h2 : OpR X f fun x y H Q => ∃ p xs, y = .ref p ∧ (SqL X.K H p xs ∨ SqT X.K H p xs) ∧ flatV x = true ∧ xs.all flatV = true ∧ Q (.bl (n (inV x xs))) H)
    (h3 : OpR X f fun y x H Q => ∃ a o, x = .ref a ∧ DGet H a y o ∧ Q (.bl (n o.isSome)) H) : OpF X g f (fun x y G => (memD x y G).map fun b => (.bl (n b), G)) := by
  intro pins s σ H x y v u Q I rx ry hh
  obtain ⟨ρ, G, a, b, R, ra, rb, d, G', e, k⟩ := hh
  obtain ⟨c, e1, e2⟩ := Option.map_eq_some_iff.mp e
  cases e2
  have kk := k (.bl (n c)) ρ H (.refl _ _) R rfl
  unfold memD at e1
  split at e1
  · cases (show y = .str _ from rb)
    split at e1
    · rename_i z _ cc
      cases (show x = .str _ from ra)
      split at e1
      · rename_i m hm
        cases e1
        refine h1 pins s σ H _ _ v u Q I rx ry ⟨m, _, ?_, rfl, kk⟩
        obtain ⟨⟨l⟩⟩ := cc
        have hm' : l = [m] := hm
        rw [hm']
      · cases e1
    · cases e1
  · rw [RV] at rb
    obtain ⟨p, vs, q, sq, r⟩ := rb
    subst q
    obtain ⟨f1, f2, f3⟩ := inD_of ra r e1
    exact h2 pins s σ H _ _ v u Q I rx ry ⟨p, vs, rfl, .inr sq, f1, f2, by rw [f3]; exact kk⟩
  · rw [RV] at rb
    obtain ⟨p, vs, q, sq, r⟩ := rb
    subst q
    obtain ⟨f1, f2, f3⟩ := inD_of ra r e1
    exact h2 pins s σ H _ _ v u Q I rx ry ⟨p, vs, rfl, .inl sq.seq, f1, f2, by rw [f3]; exact kk⟩
  · rw [RV] at rb
    obtain ⟨p, q, z⟩ := rb
    subst z
    have o := R.obj _ _ q
    split at e1
    · rename_i xs z
      rw [z] at o
      obtain ⟨vs, hp, r⟩ := o
      obtain ⟨f1, f2, f3⟩ := inD_of ra r e1
      exact h2 pins s σ H _ _ v u Q I rx ry ⟨p, vs, rfl, .inl (.of hp), f1, f2, by rw [f3]; exact kk⟩
    · rename_i kvs z
      rw [z] at o
      obtain ⟨ws, hp, r, _⟩ := o
      obtain ⟨kk', z1, z2⟩ := Option.map_eq_some_iff.mp e1
      subst z2
      exact h3 pins s σ H _ _ v u Q I rx ry ⟨p, valV ws kk', rfl, .inl ⟨ws, kk', .inl hp, key_of' ra z1, rfl⟩, by rw [RM.some_iff r]; exact kk⟩
    · rename_i kvs z
      rw [z] at o
      obtain ⟨ob, ws, hp, r, _⟩ := o
      obtain ⟨kk', z1, z2⟩ := Option.map_eq_some_iff.mp e1
      subst z2
      exact h3 pins s σ H _ _ v u Q I rx ry ⟨p, valV ws kk', rfl, .inl ⟨ws, kk', .inr ⟨ob, hp⟩, key_of' ra z1, rfl⟩, by rw [RM.some_iff r]; exact kk⟩
    · cases e1
  · cases e1
theorem of_in (hu : X.A.units + 1 < cLine) : OpF X g (compareOp .In) opIn := of_mem (n := fun b => b) op_in_sign op_in_seq (op_din hu)
theorem of_notIn (hu : X.A.units + 1 < cLine) : OpF X g (compareOp .NotIn) opNotIn := of_mem (n := fun b => !b) op_notIn_sign op_notIn_seq (op_dnotin hu)
end
end Mi
/-! F, part 4: fields, subscripts, slices, calls. -/
namespace Mi
open PySem PySem.Spec PyProof.Rows L2

/-! ### fields -/
/-- the numbers of the fields stand for different names -/
def FnInj (g : Tg) : Prop := ∀ i j, g.fn i = g.fn j → i = j
/-- na c f: the class c is plain, and no attribute of it bears the name of the field f -/
def NaOk (K : PySem.W.Frag) (g : Tg) (na : Nat → Nat → Bool) : Prop := ∀ c f, na c f = true → Cls K (g.ca c) ∧ NoAttr K (g.ca c) (g.fn f)
section
variable {K : PySem.W.Frag} {g : Tg} {ρ : List Addr} {H : Hp}
theorem RM.fld (hi : FnInj g) {f : Nat} : ∀ {l : List (Nat × D)} {ws : List (Str × V)} {d : D}, RM K g ρ H g.fn l ws → valD l f = some d → ∃ v, ws.lookup (g.fn f) = some v ∧ RV K g ρ H d v
  | [], _, _, _, e => by cases e
  | (j, d) :: r, _, d', h, e => by
    rw [RM] at h
    obtain ⟨v, q, z, h1, h2⟩ := h
    subst z
    by_cases z : j = f
    · rw [valD, if_pos z] at e; cases e
      subst z
      exact ⟨v, by simp [List.lookup], h1⟩
    · rw [valD, if_neg z] at e
      obtain ⟨w, e1, r1⟩ := RM.fld hi h2 e
      have n : (g.fn f == g.fn j) = false := beq_eq_false_iff_ne.mpr fun q => z (hi _ _ q).symm
      exact ⟨w, by rw [List.lookup_cons, n]; exact e1, r1⟩
theorem RM.putF (hi : FnInj g) {f : Nat} {d : D} {v : V} (r : RV K g ρ H d v) : ∀ {l : List (Nat × D)} {ws : List (Str × V)}, RM K g ρ H g.fn l ws → RM K g ρ H g.fn (putD l f d) (L2.putF (g.fn f) v ws)
  | [], _, h => by
    rw [RM] at h; subst h
    rw [putD, RM]
    exact ⟨v, [], rfl, r, by rw [RM]⟩
  | (j, e) :: t, _, h => by
    rw [RM] at h
    obtain ⟨w, q, z, h1, h2⟩ := h
    subst z
    by_cases z : j = f
    · subst z
      rw [putD, if_pos rfl, L2.putF, if_pos rfl, RM]
      exact ⟨v, q, rfl, r, h2⟩
    · have n : ¬ g.fn j = g.fn f := fun q => z (hi _ _ q)
      rw [putD, if_neg z, L2.putF, if_neg n, RM]
      exact ⟨w, _, rfl, h1, RM.putF hi r h2⟩
end
def fldO (na : Nat → Nat → Bool) (f : Nat) (d : D) (G : Gh) : Option D := match d with
  | .ref i => (match G.ob i with
    | .ins c fs => if na c f = true then valD fs f else none
    | _ => none)
  | _ => none
def eFld (na : Nat → Nat → Bool) (f : Nat) (ma : Ev → M D) : Ev → M D := fun env G => (ma env G).bind fun d G1 => match fldO na f d G1 with
  | some v => .ok v G1
  | none => .no
section
variable {X : Cx} {g : Tg} {W : WX} {pos : Pos} {a b e o : Expr} {ma mb mo : Ev → M D} {na : Nat → Nat → Bool}
theorem fe_fld {f : Nat} {x : Str} (hx : g.fn f = x) (hi : FnInj g) (hn : NaOk X.K g na) (ha : FE X g W a ma) (hb : attributeBase a x X.env (eval a X.env) = eval a X.env := by rfl) : FE X g W (.Attribute a x pos) (eFld na f ma) := by
  refine PE.imp (pe_fld ha hb) ?_
  rintro σ H Q ⟨ρ, env, G, R, E, h⟩
  refine tE_run R E h.bind fun d G1 ρ1 H1 x1 R1 h1 v1 r1 => ?_
  unfold fldO at h1
  split at h1
  · rename_i w z
    split at z
    · rename_i i
      split at z
      · rename_i c fs ho
        split at z
        · rename_i hc
          obtain ⟨c1, c2⟩ := hn c f hc
          rw [RV] at r1
          obtain ⟨p, e1, e2⟩ := r1
          subst e2
          have o1 := R1.obj _ _ e1
          rw [ho] at o1
          obtain ⟨dx, ws, hp, rm⟩ := o1
          obtain ⟨u, l, ru⟩ := RM.fld hi rm z
          rw [hx] at l c2
          exact ⟨p, _, dx, ws, u, rfl, hp, c1, c2, l, h1.now R1 u ru⟩
        · cases z
      · cases z
    · cases z
  · exact h1.elim

/-! ### subscripts -/
def ixD (x y : D) (G : Gh) : Option D := match x with
  | .tup xs => (match y with
    | .int i => atI xs i
    | _ => none)
  | .rol xs => (match y with
    | .int i => atI xs i
    | _ => none)
  | .str z => (match y with
    | .int i => if z.length ≤ sizeLine then (atI z.cps.toList i).map fun c => .str ⟨#[c]⟩ else none
    | _ => none)
  | .ref l => (match G.ob l with
    | .lst xs => (match y with
      | .int i => atI xs i
      | _ => none)
    | .dct kvs => (keyD y).bind fun k => valD kvs k
    | .lk kvs => (keyD y).bind fun k => valD kvs k
    | _ => none)
  | _ => none
def opIx : O2 := fun x y G => (ixD x y G).map fun d => (d, G)
theorem ix_dict (hu : X.A.units + 1 < cLine) : IxR X (fun x y H Q => ∃ a v, x = .ref a ∧ DGet H a y (some v) ∧ Q v H) := by
  intro value slice pins s σ H x y v u Q I rx ry h hs
  obtain ⟨p, w, q1, hg, q⟩ := h
  subst q1
  obtain rfl : v = Value.ref p := rx
  exact tail_any (dict_typeIs I hg) PySem.F.slot_dict_getitem.lookup (d_getItem hu I hg ry fun w' s3 I3 rw' => ⟨w, H, I3, rw', q⟩) hs
theorem RVs.atI {K : PySem.W.Frag} {ρ : List Addr} {H : Hp} {xs : List D} {vs : List V} {i : Int} {d : D} (r : RVs K g ρ H xs vs) (h : L2.atI xs i = some d) : ∃ v, L2.atI vs i = some v ∧ RV K g ρ H d v := by
  unfold L2.atI at h ⊢
  rw [r.len]
  cases z : ixN xs.length i with
  | none => rw [z] at h; cases h
  | some j =>
    rw [z] at h
    exact r.get (i := j) h
theorem of_ix (hu : X.A.units + 1 < cLine) : IxR X (rF X.K g opIx) := by
  intro value slice pins s σ H x y v u Q I rx ry hh hs
  obtain ⟨ρ, G, a, b, R, ra, rb, d, G', e, k⟩ := hh
  unfold opIx at e
  obtain ⟨c, e1, e2⟩ := Option.map_eq_some_iff.mp e
  cases e2
  have kk := fun v r => k v ρ H (.refl _ _) R r
  unfold ixD at e1
  split at e1
  · rename_i xs
    split at e1
    · cases (show y = .int _ from rb)
      rw [RV] at ra
      obtain ⟨p, vs, q, sq, r⟩ := ra
      subst q
      obtain ⟨w, ew, rw'⟩ := RVs.atI r e1
      exact ix_tup value slice pins s σ H _ _ v u Q I rx ry ⟨p, vs, _, w, rfl, rfl, sq, ew, kk w rw'⟩ hs
    · cases e1
  · split at e1
    · cases (show y = .int _ from rb)
      rw [RV] at ra
      obtain ⟨p, vs, q, sq, r⟩ := ra
      subst q
      obtain ⟨w, ew, rw'⟩ := RVs.atI r e1
      exact ix_list value slice pins s σ H _ _ v u Q I rx ry ⟨p, vs, _, w, rfl, rfl, sq.seq, ew, kk w rw'⟩ hs
    · cases e1
  · split at e1
    · cases (show y = .int _ from rb)
      cases (show x = .str _ from ra)
      split at e1
      · rename_i hz
        obtain ⟨m, em, z⟩ := Option.map_eq_some_iff.mp e1
        subst z
        exact ix_str value slice pins s σ H _ _ v u Q I rx ry ⟨_, _, m, rfl, rfl, hz, em, kk _ rfl⟩ hs
      · cases e1
    · cases e1
  · rw [RV] at ra
    obtain ⟨p, q, z⟩ := ra
    subst z
    have o := R.obj _ _ q
    split at e1
    · rename_i xs z
      rw [z] at o
      obtain ⟨vs, hp, r⟩ := o
      split at e1
      · cases (show y = .int _ from rb)
        obtain ⟨w, ew, rw'⟩ := RVs.atI r e1
        exact ix_list value slice pins s σ H _ _ v u Q I rx ry ⟨p, vs, _, w, rfl, rfl, .of hp, ew, kk w rw'⟩ hs
      · cases e1
    · rename_i kvs z
      rw [z] at o
      obtain ⟨ws, hp, r, _⟩ := o
      obtain ⟨kk', z1, z2⟩ := Option.bind_eq_some_iff.mp e1
      obtain ⟨w, ew, rw'⟩ := (RM.val r).1 _ z2
      exact ix_dict hu value slice pins s σ H _ _ v u Q I rx ry ⟨p, w, rfl, .inl ⟨ws, kk', .inl hp, key_of' rb z1, ew.symm⟩, kk w rw'⟩ hs
    · rename_i kvs z
      rw [z] at o
      obtain ⟨ob, ws, hp, r, _⟩ := o
      obtain ⟨kk', z1, z2⟩ := Option.bind_eq_some_iff.mp e1
      obtain ⟨w, ew, rw'⟩ := (RM.val r).1 _ z2
      exact ix_dict hu value slice pins s σ H _ _ v u Q I rx ry ⟨p, w, rfl, .inl ⟨ws, kk', .inr ⟨ob, hp⟩, key_of' rb z1, ew.symm⟩, kk w rw'⟩ hs
    · cases e1
  · cases e1
theorem fe_ix (hu : X.A.units + 1 < cLine) (ha : FE X g W a ma) (hb : FE X g W b mb) (hs : PlainIx b := by intro _ _; rfl) : FE X g W (.Subscript a b pos) (eOp opIx ma mb) :=
  PE.imp (pe_ix (of_ix hu) ha hb hs) fun _ _ _ h => bin_run h

/-! ### slices -/
def pNone : Ev → M (Option Int) := fun _ G => .ok none G
def pSome (m : Ev → M D) : Ev → M (Option Int) := fun env G => (m env G).bind fun d G1 => match d with
  | .int i => .ok (some i) G1
  | _ => .no
theorem fo_none : FO X g W none pNone := by
  refine PO.imp po_none ?_
  rintro σ H Q ⟨ρ, env, G, R, E, h⟩
  exact h.now R
theorem fo_some (ha : FE X g W a ma) : FO X g W (some a) (pSome ma) := by
  refine PO.imp (po_some ha) ?_
  rintro σ H Q ⟨ρ, env, G, R, E, h⟩
  refine tE_run R E h.bind fun d G1 ρ1 H1 x1 R1 h1 v1 r1 => ?_
  cases d with
  | int i => exact ⟨i, r1, h1.now R1⟩
  | _ => exact h1.elim
def cutD {α : Type} (xs : List α) (lo hi : Option Int) : List α := (xs.drop (HT.sIx xs.length 0 lo)).take (HT.sIx xs.length xs.length hi - HT.sIx xs.length 0 lo)
def slD (x : D) (lo hi : Option Int) (G : Gh) : Option (D × Gh) := match x with
  | .ref i => (match G.ob i with
    | .lst xs => some (.ref G.n, G.push (.lst (cutD xs lo hi)))
    | _ => none)
  | .rol xs => some (.ref G.n, G.push (.lst (cutD xs lo hi)))
  | .str z => if z.length ≤ sizeLine then some (.str (cutS z lo hi), G) else none
  | .tup xs => if ¬ (HT.sIx xs.length 0 lo = 0 ∧ HT.sIx xs.length xs.length hi = xs.length) then some (.tup (cutD xs lo hi), G) else none
  | _ => none
def eSl (ma : Ev → M D) (p q : Ev → M (Option Int)) : Ev → M D := fun env G => (ma env G).bind fun x G1 => (p env G1).bind fun lo G2 => (q env G2).bind fun hi G3 => lift (slD x lo hi G3)
theorem RVs.cut {K : PySem.W.Frag} {ρ : List Addr} {H : Hp} {xs : List D} {vs : List V} {lo hi : Option Int} (r : RVs K g ρ H xs vs) : RVs K g ρ H (cutD xs lo hi) (cutV vs lo hi) := by
  unfold cutD cutV
  rw [r.len]
  exact (r.drop _).take _
theorem fe_sl {lo hi : Option Expr} {p q : Ev → M (Option Int)} {p2 : Pos} (ha : FE X g W a ma) (hl : FO X g W lo p) (hh : FO X g W hi q) : FE X g W (.Subscript a (.Slice lo hi none p2) pos) (eSl ma p q) := by
  refine PE.imp (pe_slice (SlR.or (SlR.or sl_list sl_str) sl_tup) ha hl hh) ?_
  rintro σ H Q ⟨ρ, env, G, R, E, h⟩
  refine tE_run R E h.bind fun x G1 ρ1 H1 x1 R1 h1 v1 r1 => tP_run R1 (E.ext x1) h1.bind fun lo G2 ρ2 H2 x2 R2 h2 => tP_run R2 ((E.ext x1).ext x2) h2.bind fun hi G3 ρ3 H3 x3 R3 h3 => ?_
  obtain ⟨d, G', e, k⟩ := h3.lift
  have r3 := (r1.ext x2).ext x3
  unfold slD at e
  split at e
  · rw [RV] at r3
    obtain ⟨p, q, z⟩ := r3
    subst z
    have o := R3.obj _ _ q
    split at e
    · rename_i xs z
      rw [z] at o
      obtain ⟨vs, hp, r⟩ := o
      cases e
      refine .inl (.inl ⟨p, vs, rfl, .of hp, fun l hl => ?_⟩)
      obtain ⟨x4, R4, r4⟩ := lst_new R3 (r.cut (lo := lo) (hi := hi)) hl
      exact k _ _ x4 R4 _ r4
    · cases e
  · rw [RV] at r3
    obtain ⟨p, vs, q, sq, r⟩ := r3
    subst q
    cases e
    refine .inl (.inl ⟨p, vs, rfl, sq.seq, fun l hl => ?_⟩)
    obtain ⟨x4, R4, r4⟩ := lst_new R3 (r.cut (lo := lo) (hi := hi)) hl
    exact k _ _ x4 R4 _ r4
  · cases (show v1 = .str _ from r3)
    split at e
    · rename_i hz
      cases e
      exact .inl (.inr ⟨_, rfl, hz, k _ _ (.refl _ _) R3 _ rfl⟩)
    · cases e
  · rw [RV] at r3
    obtain ⟨p, vs, q, sq, r⟩ := r3
    subst q
    split at e
    · rename_i hz
      cases e
      refine .inr ⟨p, vs, rfl, sq, by rw [r.len]; exact hz, fun l hl => ?_⟩
      obtain ⟨x4, R4, r4⟩ := tup_new R3 (r.cut (lo := lo) (hi := hi)) hl
      exact k _ _ x4 R4 _ r4
    · cases e
  · cases e
end

/-! ### defs -/
/-- what a def promises: it does what its mirror does -/
def spF (K : PySem.W.Frag) (g : Tg) (m : List D → M D) : Sp := fun vs H Q E => ∃ ρ G ds, Rep K g ρ G H ∧ RVs K g ρ H ds vs ∧ Po K g (fun c d _ H => E c d H) [] ρ H (m ds G) fun d _ ρ' H' => ∀ v, RV K g ρ' H' d v → Q v H'
theorem Po.wish {K : PySem.W.Frag} {g : Tg} {W : WX} {σ : St} {ρ : List Addr} {H : Hp} {α : Type} {r : Rs α} {P : α → Gh → List Addr → Hp → Prop} (h : Po K g W σ ρ H r P) : Po K g (fun c d _ H => W c d σ H) [] ρ H r P := by
  cases r with
  | ok a G => exact h
  | er c G => exact h
  | no => exact h
def eCall (m : List D → M D) (n : Ev → M (List D)) : Ev → M D := fun env G => (n env G).bind m
/-- x.f(..), x an instance of the class c; bad: a field that has the method's name -/
def eMeth (c : Nat) (bad : Option Nat) (m : List D → M D) (ma : Ev → M D) (n : Ev → M (List D)) : Ev → M D := fun env G => (ma env G).bind fun x G1 => match x with
  | .ref i => (match G1.ob i with
    | .ins c' fs => if c' = c ∧ (∀ f, bad = some f → valD fs f = none) then (n env G1).bind fun ds G2 => m (.ref i :: ds) G2 else .no
    | _ => .no)
  | _ => .no
instance (bad : Option Nat) (fs : List (Nat × D)) : Decidable (∀ f, bad = some f → valD fs f = none) := match bad with
  | none => .isTrue fun _ e => nomatch e
  | some f => if h : (valD fs f).isNone = true then .isTrue fun _ e => by cases e; exact Option.isNone_iff_eq_none.mp h else .isFalse fun q => h (by rw [q f rfl]; rfl)
def eMake (c : Nat) (m : List D → M D) (n : Ev → M (List D)) : Ev → M D := fun env G => (n env G).bind fun ds G1 => (m (.ref G1.n :: ds) (G1.push (.ins c []))).bind fun d G2 => match d with
  | .non => .ok (.ref G1.n) G2
  | _ => .no
section
variable {X : Cx} {g : Tg} {W : WX} {pos apos p : Pos} {o e : Expr} {es : List Expr} {mo : Ev → M D} {ms : Ev → M (List D)} {k : Nat} {f C : Addr} {fd : FuncData} {ps : List Str} {m : List D → M D} {x y : Str} {sp : Sp} {E : St → XK} {ta : TE} {t : TA}
/-- f may be called from here, by its promise -/
structure Cal (X : Cx) (f : Addr) (sp : Sp) : Prop where
  kp : PySem.W.keepIn X.K (.ref f) = true
  run : ∀ (pins : List (Addr × Obj)) (σ : St) (H : Hp) (s : Shared) (Q : VK) (us : List Value) (vs : List V) (E : XK), PassesAt (L2N.CX X.prog X.w) X σ E → Inv X pins σ H s → Vals vs us → sp vs H Q E → wpAny (model X.prog X.w) X.A (call (.ref f) us) (EP X pins σ Q) X.xe s
/-- f keeps its promise where k rooms are left -/
structure FnR (P : Program) (w : World) (K : PySem.W.Frag) (mg : Str → Option Value) (base : Heap) (k : Nat) (f : Addr) (sp : Sp) : Prop where
  ex : ∃ fd ps, FnOk P w K mg base (L2N.CX P w) k f fd ps sp ∧ Binds K fd ps []
  kp : PySem.W.keepIn K (.ref f) = true
/-- .. within an except suite -/
structure FnRH (P : Program) (w : World) (K : PySem.W.Frag) (mg : Str → Option Value) (base : Heap) (k : Nat) (f : Addr) (sp : Sp) : Prop where
  ex : ∃ fd ps, L2H.FnH P w K mg base (L2N.CX P w) k f fd ps sp ∧ Binds K fd ps []
  kp : PySem.W.keepIn K (.ref f) = true
theorem FnR.cal {sp : Sp} {k : Nat} {f : Addr} (F : FnR X.prog X.w X.K X.mg X.base k f sp) (hr : Room k X.A) : Cal X f sp := by
  obtain ⟨fd, ps, h, b⟩ := F.ex
  exact ⟨F.kp, fun pins σ H s Q us vs E hx I r q => run_fnS (E := fun _ => E) h hr b hx I r q⟩
theorem FnRH.cal {sp : Sp} {k : Nat} {f : Addr} (F : FnRH X.prog X.w X.K X.mg X.base k f sp) (hr : L2H.RoomH k X.A) (hc : L2H.HotC X) : Cal X f sp := by
  obtain ⟨fd, ps, h, b⟩ := F.ex
  exact ⟨F.kp, fun pins σ H s Q us vs E hx I r q => L2H.run_fnH (E := fun _ => E) h hr hc b hx I r q⟩
/-- the wish may hang on the slots: o.y(e, ..), o.y(), C(e, ..), C(), f() -/
theorem pe_mthA {pl : Sem Bool} (c : Cls X.K C) (hm : Meth X.K C y f) (F : Cal X f sp) (hx : ∀ σ, PassesAt (L2N.CX X.prog X.w) X σ (E σ)) (he : PE X o ta) (ha : PA X (e :: es) t)
    (q1 : starEach (e :: es) X.env = (false, eval e X.env) :: starEach es X.env) (q2 : (backTo pos (starEach es X.env)).any (·.1) = false)
    (q3 : eval (.Call (.Attribute o y apos) (e :: es) [] pos) X.env = (do let ov ← eval o X.env; standAt apos.atName; let (f, first) ← holding [ov] (getMethod ov y pl); callWith pos f first (backTo pos (starEach (e :: es) X.env)) (backToKw pos (keywordEach [] X.env)))) :
    PE X (.Call (.Attribute o y apos) (e :: es) [] pos) (fun σ H Q => ta σ H fun x H1 => ∃ a dx fs, x = .ref a ∧ H1 a = some (.ins C dx fs) ∧ fs.lookup y = none ∧ t σ H1 fun vs H2 => sp (x :: vs) H2 Q (E σ)) := by
  refine ⟨fun pins s σ H Q I h => PySem.W.methodCall_KW (pl := pl) (thn (he.run pins s σ H _ I h) fun u s1 hh => ?_) q3⟩
  obtain ⟨z, H1, I1, rz, a, dx, fs, ez, ea, l, hq⟩ := hh
  subst ez
  obtain rfl : u = Value.ref a := rz
  refine getmeth_ok I1 ea c hm l (PySem.W.callWith_K (first := [.ref a]) (h₀ := X.base) I.ok.mod.kin hm.kp (thn (ha.run pos pins s1 σ H1 _ I1 hq) fun us s2 hh2 => ?_) q1 q2)
  obtain ⟨vs, H2, I2, r2, hq2⟩ := hh2
  exact ⟨I2.kIn, F.run _ _ _ _ _ (.ref a :: us) (.ref a :: vs) (E σ) (hx σ) I2 (.cons rfl r2) hq2⟩
theorem pe_mthA0 {pl : Sem Bool} (c : Cls X.K C) (hm : Meth X.K C y f) (F : Cal X f sp) (hx : ∀ σ, PassesAt (L2N.CX X.prog X.w) X σ (E σ)) (he : PE X o ta)
    (q3 : eval (.Call (.Attribute o y apos) [] [] pos) X.env = (do let ov ← eval o X.env; standAt apos.atName; let (f, first) ← holding [ov] (getMethod ov y pl); callWith pos f first (backTo pos (starEach [] X.env)) (backToKw pos (keywordEach [] X.env)))) :
    PE X (.Call (.Attribute o y apos) [] [] pos) (fun σ H Q => ta σ H fun x H1 => ∃ a dx fs, x = .ref a ∧ H1 a = some (.ins C dx fs) ∧ fs.lookup y = none ∧ sp [x] H1 Q (E σ)) := by
  refine ⟨fun pins s σ H Q I h => PySem.W.methodCall_KW (pl := pl) (thn (he.run pins s σ H _ I h) fun u s1 hh => ?_) q3⟩
  obtain ⟨z, H1, I1, rz, a, dx, fs, ez, ea, l, hq⟩ := hh
  subst ez
  obtain rfl : u = Value.ref a := rz
  exact getmeth_ok I1 ea c hm l (PySem.W.callWith_K0 (first := [.ref a]) I1.kIn hm.kp (F.run _ _ _ _ _ [.ref a] [.ref a] (E σ) (hx σ) I1 (.cons rfl .nil) hq))
theorem pe_cal0 (F : Cal X f sp) (hx : ∀ σ, PassesAt (L2N.CX X.prog X.w) X σ (E σ)) (hg : Gl X x) (hm : X.mg x = some (.ref f)) 
    (hd : (x == ("__debug__" : Str)) = false := by decide) : PE X (.Call (.Name x p) [] [] pos) (fun σ H Q => sp [] H Q (E σ)) :=
  ⟨fun pins s σ H Q I h => wpAny_Call_Name_kw (ld_glob I hg hm (PySem.W.callWith_K0 I.kIn F.kp (F.run pins σ H s Q [] [] (E σ) (hx σ) I .nil h)) hd)⟩
theorem pe_calA (F : Cal X f sp) (hx : ∀ σ, PassesAt (L2N.CX X.prog X.w) X σ (E σ)) (hg : Gl X x) (hm : X.mg x = some (.ref f)) (ha : PA X (e :: es) t)
    (q1 : starEach (e :: es) X.env = (false, eval e X.env) :: starEach es X.env) (q2 : (backTo pos (starEach es X.env)).any (·.1) = false) (hd : (x == ("__debug__" : Str)) = false := by decide) :
    PE X (.Call (.Name x p) (e :: es) [] pos) (fun σ H Q => t σ H fun vs H1 => sp vs H1 Q (E σ)) := by
  refine ⟨fun pins s σ H Q I h => wpAny_Call_Name_kw (ld_glob I hg hm (PySem.W.callWith_K (h₀ := X.base) I.ok.mod.kin F.kp (thn (ha.run pos pins s σ H _ I h) fun us s1 hh => ?_) q1 q2) hd)⟩
  obtain ⟨vs, H1, I1, r, q⟩ := hh
  exact ⟨I1.kIn, F.run _ _ _ _ _ us vs (E σ) (hx σ) I1 r q⟩
theorem run_mkS {pins : List (Addr × Obj)} {σ : St} {H : Hp} {s : Shared} {Q : VK} {us : List Value} {vs : List V} (M : Mk X.K C f) (F : FnOk X.prog X.w X.K X.mg X.base (L2N.CX X.prog X.w) k f fd ps sp) (hr : Room (k + 1) X.A) (hb : Binds X.K fd ps [])
    (hx : ∀ σ, PassesAt (L2N.CX X.prog X.w) X σ (E σ)) (I : Inv X pins σ H s) (r : Vals vs us) (h : ∀ x dx, H x = none → H dx = none → dx ≠ x → sp (.ref x :: vs) (upd (upd H dx (.own x)) x (.ins C dx [])) (fun v H2 => v = .non ∧ Q (.ref x) H2) (E σ)) :
    wpAny (model X.prog X.w) X.A (call (.ref C) us) (EP X pins σ Q) X.xe s := by
  have hq := h (s.heap.objs.size + 1) s.heap.objs.size (I.hok.fresh (Nat.le_succ _)) (I.hok.fresh (Nat.le_refl _)) (Nat.ne_of_lt (Nat.lt_succ_self _))
  have I2 := Inv.made (C := C) I
  have r2 : Vals (V.ref (s.heap.objs.size + 1) :: vs) (Value.ref (s.heap.objs.size + 1) :: us) := .cons rfl r
  have hl : (Value.ref (s.heap.objs.size + 1) :: us).length = ps.length := by rw [← r2.length]; exact F.len _ _ _ _ hq
  have b := hb _ (Value.ref (s.heap.objs.size + 1) :: us) I2.kIn (by rw [List.append_nil]; exact hl)
  rw [List.append_nil] at b
  refine wpAny_call (make_map (f := f) I.kIn M.makes M.init (beq_iff_eq.mp M.fn) (codeAny_mono (F.run _ X.stack _ _ ⟨_, []⟩ _ _ _ (E σ) (hr.make C us []) (I2.env0.make C us []) b r2 hq) fun r s' hq' => ?_))
  cases r with
  | error e => exact hx σ pins _ _ e s' I2 hq'
  | ok fl =>
    cases fl with
    | ret u =>
      obtain ⟨v, H', I3, rv, ev, q3⟩ := I2.after hq'
      cases ev
      exact ⟨rv, V.ref (s.heap.objs.size + 1), H', I3, rfl, q3⟩
    | next => exact hq'.elim
    | brk => exact hq'.elim
    | cont => exact hq'.elim
theorem pe_mkA (M : Mk X.K C f) (F : FnOk X.prog X.w X.K X.mg X.base (L2N.CX X.prog X.w) k f fd ps sp) (hr : Room (k + 1) X.A) (hb : Binds X.K fd ps []) (hx : ∀ σ, PassesAt (L2N.CX X.prog X.w) X σ (E σ)) (hg : Gl X x) (hm : X.mg x = some (.ref C)) (ha : PA X (e :: es) t)
    (q1 : starEach (e :: es) X.env = (false, eval e X.env) :: starEach es X.env) (q2 : (backTo pos (starEach es X.env)).any (·.1) = false) (hd : (x == ("__debug__" : Str)) = false := by decide) :
    PE X (.Call (.Name x p) (e :: es) [] pos) (fun σ H Q => t σ H fun vs H1 => ∀ x dx, H1 x = none → H1 dx = none → dx ≠ x → sp (.ref x :: vs) (upd (upd H1 dx (.own x)) x (.ins C dx [])) (fun v H2 => v = .non ∧ Q (.ref x) H2) (E σ)) := by
  refine ⟨fun pins s σ H Q I h => wpAny_Call_Name_kw (ld_glob I hg hm (PySem.W.callWith_K (h₀ := X.base) I.ok.mod.kin M.kp (thn (ha.run pos pins s σ H _ I h) fun us s1 hh => ?_) q1 q2) hd)⟩
  obtain ⟨vs, H1, I1, r, q⟩ := hh
  exact ⟨I1.kIn, run_mkS M F hr hb hx I1 r q⟩
theorem pe_mkA0 (M : Mk X.K C f) (F : FnOk X.prog X.w X.K X.mg X.base (L2N.CX X.prog X.w) k f fd ps sp) (hr : Room (k + 1) X.A) (hb : Binds X.K fd ps []) (hx : ∀ σ, PassesAt (L2N.CX X.prog X.w) X σ (E σ)) (hg : Gl X x) (hm : X.mg x = some (.ref C))
    (hd : (x == ("__debug__" : Str)) = false := by decide) :
    PE X (.Call (.Name x p) [] [] pos) (fun σ H Q => ∀ x dx, H x = none → H dx = none → dx ≠ x → sp [.ref x] (upd (upd H dx (.own x)) x (.ins C dx [])) (fun v H2 => v = .non ∧ Q (.ref x) H2) (E σ)) :=
  ⟨fun pins s σ H Q I h => wpAny_Call_Name_kw (ld_glob I hg hm (PySem.W.callWith_K0 I.kIn M.kp (run_mkS (us := []) M F hr hb hx I .nil h)) hd)⟩

theorem fe_call (F : Cal X f (spF X.K g m)) (hg : Gl X x) (hm : X.mg x = some (.ref f)) (tk : L2N.Takes X W) (ha : FA X g W (e :: es) ms)
    (hd : (x == ("__debug__" : Str)) = false := by decide) (q1 : starEach (e :: es) X.env = (false, eval e X.env) :: starEach es X.env := by rfl) (q2 : (backTo pos (starEach es X.env)).any (·.1) = false := by rfl) :
    FE X g W (.Call (.Name x p) (e :: es) [] pos) (eCall m ms) := by
  refine PE.imp (pe_calA F (L2N.passAt tk) hg hm ha q1 q2 hd) ?_
  rintro σ H Q ⟨ρ, env, G, R, E, h⟩
  exact tA_run R E h.bind fun ds G1 ρ1 H1 x1 R1 h1 vs r1 => ⟨ρ1, G1, ds, R1, r1, h1.wish⟩
theorem fe_call0 (F : Cal X f (spF X.K g m)) (hg : Gl X x) (hm : X.mg x = some (.ref f)) (tk : L2N.Takes X W)
    (hd : (x == ("__debug__" : Str)) = false := by decide) : FE X g W (.Call (.Name x p) [] [] pos) (eCall m aNil) := by
  refine PE.imp (pe_cal0 F (L2N.passAt tk) hg hm hd) ?_
  rintro σ H Q ⟨ρ, env, G, R, E, h⟩
  exact ⟨ρ, G, [], R, .nil, h.wish⟩
theorem bad_of {K : PySem.W.Frag} {ρ : List Addr} {H : Hp} {bad : Option Nat} (hi : FnInj g) (hbad : ∀ f, g.fn f = y → bad = some f) : ∀ {fs : List (Nat × D)} {ws : List (Str × V)}, RM K g ρ H g.fn fs ws → (∀ f, bad = some f → valD fs f = none) → ws.lookup y = none
  | [], _, h, _ => by rw [RM] at h; subst h; rfl
  | (j, d) :: r, _, h, n => by
    rw [RM] at h
    obtain ⟨v, q, z, h1, h2⟩ := h
    subst z
    have nj : ¬ y = g.fn j := fun z => by
      have := n j (hbad j z.symm)
      rw [valD, if_pos rfl] at this
      cases this
    rw [List.lookup_cons, beq_eq_false_iff_ne.mpr nj]
    refine bad_of hi hbad h2 fun f hf => ?_
    have := n f hf
    rw [valD] at this
    split at this
    · cases this
    · exact this
theorem fe_meth {pl : Sem Bool} {c : Nat} {bad : Option Nat} (F : Cal X f (spF X.K g m)) (hc : Cls X.K (g.ca c)) (hm : Meth X.K (g.ca c) y f) (hi : FnInj g) (hbad : ∀ f, g.fn f = y → bad = some f) (tk : L2N.Takes X W)
    (ho : FE X g W o mo) (ha : FA X g W (e :: es) ms) (q1 : starEach (e :: es) X.env = (false, eval e X.env) :: starEach es X.env := by rfl) (q2 : (backTo pos (starEach es X.env)).any (·.1) = false := by rfl)
    (q3 : eval (.Call (.Attribute o y apos) (e :: es) [] pos) X.env = (do let ov ← eval o X.env; standAt apos.atName; let (f, first) ← holding [ov] (getMethod ov y pl); callWith pos f first (backTo pos (starEach (e :: es) X.env)) (backToKw pos (keywordEach [] X.env))) := by rfl) :
    FE X g W (.Call (.Attribute o y apos) (e :: es) [] pos) (eMeth c bad m mo ms) := by
  refine PE.imp (pe_mthA hc hm F (L2N.passAt tk) ho ha q1 q2 q3) ?_
  rintro σ H Q ⟨ρ, env, G, R, E, h⟩
  refine tE_run R E h.bind fun d G1 ρ1 H1 x1 R1 h1 v1 r1 => ?_
  split at h1
  · rename_i i
    split at h1
    · rename_i c' fs z
      split at h1
      · rename_i hcc
        obtain ⟨rfl, hbd⟩ := hcc
        have r1' := r1
        rw [RV] at r1
        obtain ⟨a, e1, e2⟩ := r1
        subst e2
        have o1 := R1.obj _ _ e1
        rw [z] at o1
        obtain ⟨dx, ws, hp, rm⟩ := o1
        refine ⟨a, dx, ws, rfl, hp, bad_of hi hbad rm hbd, tA_run R1 (E.ext x1) h1.bind fun ds G2 ρ2 H2 x2 R2 h2 vs r2 => ?_⟩
        exact ⟨ρ2, G2, _, R2, .cons (r1'.ext x2) r2, h2.wish⟩
      · exact h1.elim
    · exact h1.elim
  · exact h1.elim
theorem fe_meth0 {pl : Sem Bool} {c : Nat} {bad : Option Nat} (F : Cal X f (spF X.K g m)) (hc : Cls X.K (g.ca c)) (hm : Meth X.K (g.ca c) y f) (hi : FnInj g) (hbad : ∀ f, g.fn f = y → bad = some f) (tk : L2N.Takes X W)
    (ho : FE X g W o mo)
    (q3 : eval (.Call (.Attribute o y apos) [] [] pos) X.env = (do let ov ← eval o X.env; standAt apos.atName; let (f, first) ← holding [ov] (getMethod ov y pl); callWith pos f first (backTo pos (starEach [] X.env)) (backToKw pos (keywordEach [] X.env))) := by rfl) :
    FE X g W (.Call (.Attribute o y apos) [] [] pos) (eMeth c bad m mo aNil) := by
  refine PE.imp (pe_mthA0 hc hm F (L2N.passAt tk) ho q3) ?_
  rintro σ H Q ⟨ρ, env, G, R, E, h⟩
  refine tE_run R E h.bind fun d G1 ρ1 H1 x1 R1 h1 v1 r1 => ?_
  split at h1
  · rename_i i
    split at h1
    · rename_i c' fs z
      split at h1
      · rename_i hcc
        obtain ⟨rfl, hbd⟩ := hcc
        have r1' := r1
        rw [RV] at r1
        obtain ⟨a, e1, e2⟩ := r1
        subst e2
        have o1 := R1.obj _ _ e1
        rw [z] at o1
        obtain ⟨dx, ws, hp, rm⟩ := o1
        refine ⟨a, dx, ws, rfl, hp, bad_of hi hbad rm hbd, ρ1, G1, _, R1, .cons r1' .nil, ?_⟩
        exact Po.wish h1
      · exact h1.elim
    · exact h1.elim
  · exact h1.elim
/-- an instance is made -/
theorem make_run {c : Nat} {ρ : List Addr} {G : Gh} {H : Hp} {σ : St} {ds : List D} {vs : List V} {Q : VK} (R : Rep X.K g ρ G H) (r : RVs X.K g ρ H ds vs)
    (h : Po X.K g W σ ρ H ((m (.ref G.n :: ds) (G.push (.ins c []))).bind fun d G2 => match d with | .non => .ok (D.ref G.n) G2 | _ => .no) fun d _ ρ' H' => ∀ v, RV X.K g ρ' H' d v → Q v H') :
    ∀ x dx, H x = none → H dx = none → dx ≠ x → spF X.K g m (.ref x :: vs) (upd (upd H dx (.own x)) x (.ins (g.ca c) dx [])) (fun v H2 => v = .non ∧ Q (.ref x) H2) (WE W σ) := by
  intro x dx hx hdx ne
  have x1 : Ext ρ H ρ (upd H dx (.own x)) := ⟨fun _ _ z => z, .new hdx⟩
  have hx1 : upd H dx (.own x) x = none := by rw [upd_ne (Ne.symm ne)]; exact hx
  obtain ⟨R2, x2, q2⟩ := (R.grow (o := .own x) hdx).new (o := .ins (g.ca c) dx []) (ob := .ins c []) hx1 ⟨dx, [], upd_same, by rw [RM]⟩
  have rx : RV X.K g (ρ ++ [x]) (upd (upd H dx (.own x)) x (.ins (g.ca c) dx [])) (.ref G.n) (.ref x) := by rw [RV]; exact ⟨x, q2, rfl⟩
  refine ⟨_, _, _, R2, .cons rx ((r.ext x1).ext x2), ?_⟩
  refine ((h.start (x1.trans x2)).bind.wish).imp fun d G3 ρ3 H3 x3 R3 h3 v3 r3 => ?_
  cases d with
  | non => exact ⟨r3, h3.now R3 _ (rx.ext x3)⟩
  | _ => exact h3.elim
theorem fe_make {c : Nat} (M : Mk X.K (g.ca c) f) (F : FnR X.prog X.w X.K X.mg X.base k f (spF X.K g m)) (hr : Room (k + 1) X.A) (tk : L2N.Takes X W) (hg : Gl X x) (hm : X.mg x = some (.ref (g.ca c))) (ha : FA X g W (e :: es) ms)
    (hd : (x == ("__debug__" : Str)) = false := by decide) (q1 : starEach (e :: es) X.env = (false, eval e X.env) :: starEach es X.env := by rfl) (q2 : (backTo pos (starEach es X.env)).any (·.1) = false := by rfl) :
    FE X g W (.Call (.Name x p) (e :: es) [] pos) (eMake c m ms) := by
  obtain ⟨fd, ps, h, hb⟩ := F.ex
  refine PE.imp (pe_mkA M h hr hb (L2N.passAt tk) hg hm ha q1 q2 hd) ?_
  rintro σ H Q ⟨ρ, env, G, R, E, h⟩
  exact tA_run R E h.bind fun ds G1 ρ1 H1 x1 R1 h1 vs r1 => make_run R1 r1 h1
theorem fe_make0 {c : Nat} (M : Mk X.K (g.ca c) f) (F : FnR X.prog X.w X.K X.mg X.base k f (spF X.K g m)) (hr : Room (k + 1) X.A) (tk : L2N.Takes X W) (hg : Gl X x) (hm : X.mg x = some (.ref (g.ca c)))
    (hd : (x == ("__debug__" : Str)) = false := by decide) : FE X g W (.Call (.Name x p) [] [] pos) (eMake c m aNil) := by
  obtain ⟨fd, ps, h, hb⟩ := F.ex
  refine PE.imp (pe_mkA0 M h hr hb (L2N.passAt tk) hg hm hd) ?_
  rintro σ H Q ⟨ρ, env, G, R, E, h⟩
  exact make_run R .nil h
end
end Mi
/-! F, part 5: statements, loops. -/
namespace Mi
open PySem PySem.Spec PyProof.Rows L2

inductive Ro where
  | nx (env : Ev) (G : Gh) | rt (d : D) (G : Gh) | bk (env : Ev) (G : Gh) | ct (env : Ev) (G : Gh) | er (c : Nat) (env : Ev) (G : Gh) | no
def Ps (K : PySem.W.Frag) (g : Tg) (W : WX) (ρ : List Addr) (H : Hp) (D : Ends) : Ro → Prop
  | .nx env G => ∀ ρ' H' σ', Ext ρ H ρ' H' → Rep K g ρ' G H' → RE K g ρ' H' env σ' → D.nx σ' H'
  | .rt d G => ∀ ρ' H' v, Ext ρ H ρ' H' → Rep K g ρ' G H' → RV K g ρ' H' d v → D.rt v H'
  | .bk env G => ∀ ρ' H' σ', Ext ρ H ρ' H' → Rep K g ρ' G H' → RE K g ρ' H' env σ' → D.bk σ' H'
  | .ct env G => ∀ ρ' H' σ', Ext ρ H ρ' H' → Rep K g ρ' G H' → RE K g ρ' H' env σ' → D.ct σ' H'
  | .er c env G => ∀ ρ' H' σ', Ext ρ H ρ' H' → Rep K g ρ' G H' → RE K g ρ' H' env σ' → W (.ref (g.ca c)) none σ' H'
  | .no => False
abbrev Sm := Ev → Gh → Ro
def Ro.seq : Ro → Sm → Ro
  | .nx env G, f => f env G
  | .rt d G, _ => .rt d G
  | .bk env G, _ => .bk env G
  | .ct env G, _ => .ct env G
  | .er c env G, _ => .er c env G
  | .no, _ => .no
/-- an expression's end in a statement -/
def exS {α : Type} (r : Rs α) (env : Ev) (f : α → Gh → Ro) : Ro := match r with
  | .ok a G => f a G
  | .er c G => .er c env G
  | .no => .no
section
variable {K : PySem.W.Frag} {g : Tg} {W : WX} {σ : St} {ρ ρ' : List Addr} {H H' : Hp} {D' D'' : Ends} {α : Type}
theorem Ps.start {r : Ro} (h : Ps K g W ρ H D' r) (x : Ext ρ H ρ' H') : Ps K g W ρ' H' D' r := by
  cases r with
  | no => exact h
  | _ => exact fun ρ2 H2 z x2 => h ρ2 H2 z (x.trans x2)
theorem Ps.ex {r : Rs α} {env : Ev} {f : α → Gh → Ro} (h : Ps K g W ρ H D' (exS r env f)) (E : RE K g ρ H env σ) : Po K g W σ ρ H r fun a G ρ' H' => Ps K g W ρ' H' D' (f a G) := by
  cases r with
  | ok a G => exact fun ρ2 H2 x2 R => Ps.start h x2
  | er c G => exact fun ρ2 H2 x2 R => h ρ2 H2 σ x2 R (E.ext x2)
  | no => exact h
theorem Ps.now {env : Ev} {G : Gh} (h : Ps K g W ρ H D' (.nx env G)) (R : Rep K g ρ G H) (E : RE K g ρ H env σ) : D'.nx σ H := h ρ H σ (.refl _ _) R E
end
def tS (K : PySem.W.Frag) (g : Tg) (W : WX) (m : Sm) : TS := fun D σ H => ∃ ρ env G, Rep K g ρ G H ∧ RE K g ρ H env σ ∧ Ps K g W ρ H D (m env G)
abbrev FS (X : Cx) (g : Tg) (W : WX) (st : Stmt) (m : Sm) : Prop := PS X st (tS X.K g W m)
abbrev FSs (X : Cx) (g : Tg) (W : WX) (st : List Stmt) (m : Sm) : Prop := PSs X st (tS X.K g W m)
def sNx : Sm := fun env G => .nx env G
@[irreducible] def sSeq (m n : Sm) : Sm := fun env G => (m env G).seq n
def sBrk : Sm := fun env G => .bk env G
def sCnt : Sm := fun env G => .ct env G
def sNever : Sm := fun _ _ => .no
def sDrop (m : Ev → M D) : Sm := fun env G => exS (m env G) env fun _ G1 => .nx env G1
def sRet (m : Ev → M D) : Sm := fun env G => exS (m env G) env fun d G1 => .rt d G1
def sRetN : Sm := fun _ G => .rt .non G
def sIf (n : Ev → M Bool) (m m' : Sm) : Sm := fun env G => exS (n env G) env fun b G1 => if b = true then m env G1 else m' env G1
section
variable {X : Cx} {g : Tg} {W : WX} {pos tpos : Pos} {a b e o : Expr} {ma mb mo : Ev → M D} {st : Stmt} {rest sa sb : List Stmt} {m n m' : Sm} {na : Nat → Nat → Bool}
theorem fss_nil : FSs X g W [] sNx := by
  refine PSs.imp pss_nil ?_
  rintro D σ H ⟨ρ, env, G, R, E, h⟩
  exact h.now R E
theorem fss_cons (h1 : FS X g W st m) (h2 : FSs X g W rest n) : FSs X g W (st :: rest) (sSeq m n) := by
  refine PSs.imp (pss_cons h1 h2) ?_
  rintro D σ H ⟨ρ, env, G, R, E, h⟩
  refine ⟨ρ, env, G, R, E, ?_⟩
  unfold sSeq at h
  cases z : m env G with
  | nx env' G' =>
    rw [z] at h
    exact fun ρ' H' σ' x R' E' => ⟨ρ', env', G', R', E', Ps.start h x⟩
  | rt d G' => rw [z] at h; exact h
  | bk env' G' => rw [z] at h; exact h
  | ct env' G' => rw [z] at h; exact h
  | er c env' G' => rw [z] at h; exact h
  | no => rw [z] at h; exact h
theorem fss_one (h1 : FS X g W st m) : FSs X g W [st] m := pss_one h1
theorem fs_pass : FS X g W (.Pass pos) sNx := by
  refine PS.imp ps_pass ?_
  rintro D σ H ⟨ρ, env, G, R, E, h⟩
  exact h.now R E
theorem fs_brk : FS X g W (.Break pos) sBrk := by
  refine PS.imp ps_break ?_
  rintro D σ H ⟨ρ, env, G, R, E, h⟩
  exact h ρ H σ (.refl _ _) R E
theorem fs_cnt : FS X g W (.Continue pos) sCnt := by
  refine PS.imp ps_continue ?_
  rintro D σ H ⟨ρ, env, G, R, E, h⟩
  exact h ρ H σ (.refl _ _) R E
theorem fs_never : FS X g W st sNever := by
  refine PS.imp ps_never ?_
  rintro D σ H ⟨ρ, env, G, R, E, h⟩
  exact h
theorem fs_doc {x j pos'} : FS X g W (.Expr (.Constant (.str x) j pos) pos') sNx := by
  refine PS.imp ps_doc ?_
  rintro D σ H ⟨ρ, env, G, R, E, h⟩
  exact h.now R E
theorem fs_expr (ha : FE X g W a ma) (hs : swapsWith a none pos.line X.env = pure false := by rfl) : FS X g W (.Expr a pos) (sDrop ma) := by
  refine PS.imp (ps_expr ha hs) ?_
  rintro D σ H ⟨ρ, env, G, R, E, h⟩
  exact tE_run R E (h.ex E) fun d G1 ρ1 H1 x1 R1 h1 v1 r1 => h1.now R1 (E.ext x1)
theorem fs_ret (ha : FE X g W a ma) : FS X g W (.Return (some a) pos) (sRet ma) := by
  refine PS.imp (ps_ret ha) ?_
  rintro D σ H ⟨ρ, env, G, R, E, h⟩
  exact tE_run R E (h.ex E) fun d G1 ρ1 H1 x1 R1 h1 v1 r1 => h1 ρ1 H1 v1 (.refl _ _) R1 r1
theorem fs_retN : FS X g W (.Return none pos) sRetN := by
  refine PS.imp ps_retN ?_
  rintro D σ H ⟨ρ, env, G, R, E, h⟩
  exact h ρ H _ (.refl _ _) R rfl
theorem fs_if {c : Expr} {nc : Ev → M Bool} (hc : FT X g W c nc) (ha : FSs X g W sa m) (hb : FSs X g W sb n) : FS X g W (.If c sa sb pos) (sIf nc m n) := by
  refine PS.imp (ps_if hc ha hb) ?_
  rintro D σ H ⟨ρ, env, G, R, E, h⟩
  refine tT_run R E (h.ex E) fun b G1 ρ1 H1 x1 R1 h1 => ?_
  cases b with
  | true => rw [if_pos rfl] at h1 ⊢; exact ⟨ρ1, env, G1, R1, E.ext x1, h1⟩
  | false => rw [if_neg Bool.false_ne_true] at h1 ⊢; exact ⟨ρ1, env, G1, R1, E.ext x1, h1⟩

/-! ### targets -/
abbrev Tm := D → Gh → Ev → Option Ev
/-- slots that differ at vs at most -/
structure But (vs : List Nat) (σ σ' : St) : Prop where
  len : σ'.length = σ.length
  out : ∀ j, j ∉ vs → σ'[j]? = σ[j]?
theorem But.set (σ : St) (i : Nat) (y : Option V) : But [i] σ (σ.set i y) := ⟨List.length_set, fun j h => List.getElem?_set_ne fun e => h (by rw [e]; exact List.mem_singleton.mpr rfl)⟩
theorem But.refl (σ : St) (vs : List Nat) : But vs σ σ := ⟨rfl, fun _ _ => rfl⟩
theorem But.trans {σ σ1 σ2 : St} {vs ws : List Nat} (a : But vs σ σ1) (b : But ws σ1 σ2) : But (vs ++ ws) σ σ2 :=
  ⟨b.len.trans a.len, fun j h => (b.out j fun z => h (List.mem_append_right _ z)).trans (a.out j fun z => h (List.mem_append_left _ z))⟩
def tG (K : PySem.W.Frag) (g : Tg) (t : Tm) (ws : List Nat) : TG := fun v σ H Q => ∃ ρ env G d env', Rep K g ρ G H ∧ RE K g ρ H env σ ∧ RV K g ρ H d v ∧ t d G env = some env' ∧ ∀ σ', RE K g ρ H env' σ' → But ws σ σ' → Q σ' H
def gmN (i : Nat) : Tm := fun d _ env => some (env.set i (some d))
def gmAll : List Tm → List D → Gh → Ev → Option Ev
  | [], [], _, env => some env
  | t :: ts, d :: ds, G, env => (match t d G env with
    | some env' => gmAll ts ds G env'
    | none => none)
  | _, _, _, _ => none
def gmT (ts : List Tm) : Tm := fun d G env => match d with
  | .tup ds => gmAll ts ds G env
  | .rol ds => gmAll ts ds G env
  | .ref i => (match G.ob i with
    | .lst ds => gmAll ts ds G env
    | _ => none)
  | _ => none
def tGs (K : PySem.W.Frag) (g : Tg) (ts : List Tm) (ws : List Nat) : TGs := fun vs σ H Q => ∃ ρ env G ds env', Rep K g ρ G H ∧ RE K g ρ H env σ ∧ RVs K g ρ H ds vs ∧ gmAll ts ds G env = some env' ∧ ∀ σ', RE K g ρ H env' σ' → But ws σ σ' → Q σ' H
theorem PG.imp {tg : Expr} {t t' : TG} (h : PG X tg t) (k : ∀ v σ H Q, t' v σ H Q → t v σ H Q) : PG X tg t' := ⟨fun pins s σ H v u Q I r q => h.run pins s σ H v u Q I r (k v σ H Q q)⟩
theorem PG.or {tg : Expr} {t t' : TG} (h : PG X tg t) (h' : PG X tg t') : PG X tg fun v σ H Q => t v σ H Q ∨ t' v σ H Q := ⟨fun pins s σ H v u Q I r q => q.elim (h.run pins s σ H v u Q I r) (h'.run pins s σ H v u Q I r)⟩
theorem PGs.imp {tg : List Expr} {t t' : TGs} (h : PGs X tg t) (k : ∀ v σ H Q, t' v σ H Q → t v σ H Q) : PGs X tg t' := ⟨fun pins s σ H v u Q I r q => h.run pins s σ H v u Q I r (k v σ H Q q)⟩
abbrev FG (X : Cx) (g : Tg) (tg : Expr) (t : Tm) (ws : List Nat) : Prop := PG X tg (tG X.K g t ws)
abbrev FGs (X : Cx) (g : Tg) (tg : List Expr) (ts : List Tm) (ws : List Nat) : Prop := PGs X tg (tGs X.K g ts ws)
theorem fg_name (i : Nat) {x : Str} (hN : X.N.Nodup) (hi : X.N[i]? = some x) (hx : Loc X.env.scope x) (hf : X.fn x = true ∨ X.env.scope.names.lookup x = some .local) : FG X g (.Name x pos) (gmN i) [i] := by
  refine PG.imp (pg_name hN hi hx hf) ?_
  rintro v σ H Q ⟨ρ, env, G, d, env', R, E, r, e, k⟩
  cases e
  exact k _ (RE.set r i E) (.set σ i _)
theorem fgs_nil : FGs X g [] [] [] := by
  refine PGs.imp pgs_nil ?_
  rintro v σ H Q ⟨ρ, env, G, ds, env', R, E, r, e, k⟩
  cases ds with
  | nil =>
    cases e
    rw [RVs] at r
    exact ⟨r, k σ E (.refl σ _)⟩
  | cons d ds => cases e
theorem fgs_cons {es : List Expr} {t : Tm} {ts : List Tm} {v1 v2 : List Nat} (h1 : FG X g a t v1) (h2 : FGs X g es ts v2) (hs : (assignEach (a :: es) X.env).map (·.2) = assign a X.env :: (assignEach es X.env).map (·.2) := by rfl) : FGs X g (a :: es) (t :: ts) (v1 ++ v2) := by
  refine PGs.imp (pgs_cons h1 h2 hs) ?_
  rintro v σ H Q ⟨ρ, env, G, ds, env', R, E, r, e, k⟩
  cases ds with
  | nil => cases e
  | cons d ds =>
    rw [RVs] at r
    obtain ⟨w, q, z, r1, r2⟩ := r
    subst z
    rw [gmAll] at e
    split at e
    · rename_i env1 e1
      exact ⟨w, q, rfl, ρ, env, G, d, env1, R, E, r1, e1, fun σ1 E1 b1 => ⟨ρ, env1, G, ds, env', R, E1, r2, e, fun σ2 E2 b2 => k σ2 E2 (b1.trans b2)⟩⟩
    · cases e
theorem gmAll_len {ts : List Tm} : ∀ {ds : List D} {G : Gh} {env env' : Ev}, gmAll ts ds G env = some env' → ds.length = ts.length := by
  induction ts with
  | nil => intro ds G env env' e; cases ds <;> first | rfl | cases e
  | cons t ts ih =>
    intro ds G env env' e
    cases ds with
    | nil => cases e
    | cons d ds =>
      rw [gmAll] at e
      split at e
      · rw [List.length_cons, List.length_cons, ih e]
      · cases e
theorem fg_tup {es : List Expr} {k : Nat} {ts : List Tm} {ws : List Nat} (hc : X.calm = true) (h : FGs X g es ts ws) (hn : (assignEach es X.env).length = ts.length := by rfl) (hst : (assignEach es X.env).findIdx? (·.1) = none := by rfl) : FG X g (.Tuple es k pos) (gmT ts) ws := by
  refine PG.imp (PG.or (pg_tup hc h hn hst) (pg_unl hc h hn hst)) ?_
  rintro v σ H Q ⟨ρ, env, G, d, env', R, E, r, e, k⟩
  unfold gmT at e
  split at e
  · rw [RV] at r
    obtain ⟨p, vs, q, sq, r⟩ := r
    exact .inl ⟨p, vs, q, sq, by rw [r.len, gmAll_len e], ρ, env, G, _, env', R, E, r, e, k⟩
  · rw [RV] at r
    obtain ⟨p, vs, q, sq, r⟩ := r
    exact .inr ⟨p, vs, q, sq.seq, by rw [r.len, gmAll_len e], ρ, env, G, _, env', R, E, r, e, k⟩
  · rw [RV] at r
    obtain ⟨p, q, z⟩ := r
    have o := R.obj _ _ q
    split at e
    · rename_i ds ho
      rw [ho] at o
      obtain ⟨vs, hp, r⟩ := o
      exact .inr ⟨p, vs, z, .of hp, by rw [r.len, gmAll_len e], ρ, env, G, _, env', R, E, r, e, k⟩
    · cases e
  · cases e

/-! ### stores -/
def sAsg (t : Tm) (m : Ev → M D) : Sm := fun env G => exS (m env G) env fun d G1 => match t d G1 env with
  | some env' => .nx env' G1
  | none => .no
theorem asg_run {σ : St} {H : Hp} {D' : Ends} {t : Tm} {ws : List Nat} (h : tS X.K g W (sAsg t ma) D' σ H) : tAsg (tE X.K g W ma) (tG X.K g t ws) D' σ H := by
  obtain ⟨ρ, env, G, R, E, h⟩ := h
  refine tE_run R E (h.ex E) fun d G1 ρ1 H1 x1 R1 h1 v1 r1 => ?_
  split at h1
  · rename_i env' e
    exact ⟨ρ1, env, G1, d, env', R1, E.ext x1, r1, e, fun σ' E' _ => h1.now R1 E'⟩
  · exact h1.elim
theorem fs_set (i : Nat) {x : Str} {pos' : Pos} (hN : X.N.Nodup) (hi : X.N[i]? = some x) (hx : Loc X.env.scope x) (hf : X.fn x = true ∨ X.env.scope.names.lookup x = some .local) (ha : FE X g W a ma) (hs : swapsWith a (some (.Name x pos')) pos.line X.env = pure false := by rfl) :
    FS X g W (.Assign [.Name x pos'] a pos) (sAsg (gmN i) ma) := by
  refine PS.imp (ps_set hN hi hx ha hs hf) ?_
  intro D σ H h
  obtain ⟨ρ, env, G, R, E, h⟩ := h
  exact tE_run R E (h.ex E) fun d G1 ρ1 H1 x1 R1 h1 v1 r1 => h1.now R1 (RE.set r1 i (E.ext x1))
theorem fs_asg {tg : Expr} {t : Tm} {ws : List Nat} (ha : FE X g W a ma) (hg : FG X g tg t ws) (hs : swapsWithSole [tg] a pos.line X.env = pure false := by rfl) (hw : swappedStores [tg] a X.env = pure none := by rfl) (h1 : (assignEach [tg] X.env).map (·.2) = [assign tg X.env] := by rfl) :
    FS X g W (.Assign [tg] a pos) (sAsg t ma) := PS.imp (ps_asg ha hg hs hw h1) fun _ _ _ h => asg_run h
/-- a field is stored: by the object's value and the new one -/
def setFldO (na : Nat → Nat → Bool) (f : Nat) (d v : D) (G : Gh) : Option Gh := match d with
  | .ref i => (match G.ob i with
    | .ins c fs => if na c f = true ∧ fs.length < 1000 then some (G.set i (.ins c (putD fs f v))) else none
    | _ => none)
  | _ => none
def sFld (na : Nat → Nat → Bool) (f : Nat) (mo mv : Ev → M D) : Sm := fun env G => exS (mv env G) env fun v G1 => exS (mo env G1) env fun d G2 => match setFldO na f d v G2 with
  | some G3 => .nx env G3
  | none => .no
theorem setFld_of {ρ : List Addr} {G G' : Gh} {H : Hp} {f : Nat} {d v : D} {x y : V} (hi : FnInj g) (hn : NaOk X.K g na) (R : Rep X.K g ρ G H) (rd : RV X.K g ρ H d x) (rv : RV X.K g ρ H v y) (e : setFldO na f d v G = some G') :
    ∃ a C dx fs, x = .ref a ∧ H a = some (.ins C dx fs) ∧ Cls X.K C ∧ NoAttr X.K C (g.fn f) ∧ fs.length < 1000 ∧ Ext ρ H ρ (upd H a (.ins C dx (L2.putF (g.fn f) y fs))) ∧ Rep X.K g ρ G' (upd H a (.ins C dx (L2.putF (g.fn f) y fs))) := by
  unfold setFldO at e
  split at e
  · rename_i i
    split at e
    · rename_i c fs ho
      split at e
      · rename_i hc
        cases e
        obtain ⟨c1, c2⟩ := hn c f hc.1
        rw [RV] at rd
        obtain ⟨p, e1, e2⟩ := rd
        subst e2
        have o1 := R.obj _ _ e1
        rw [ho] at o1
        obtain ⟨dx, ws, hp, rm⟩ := o1
        obtain ⟨R2, x2⟩ := R.write (o := .ins (g.ca c) dx (L2.putF (g.fn f) y ws)) (ob := .ins c (putD fs f v)) e1 (by rw [ho]; rfl) fun x => ⟨dx, _, upd_same, (RM.putF hi rv rm).ext x⟩
        exact ⟨p, _, dx, ws, rfl, hp, c1, c2, by rw [rm.len]; exact hc.2, x2, R2⟩
      · cases e
    · cases e
  · cases e
theorem fs_fld {f : Nat} {x : Str} {pos' : Pos} (hx : g.fn f = x) (hi : FnInj g) (hn : NaOk X.K g na) (ho : FE X g W o mo) (hv : FE X g W a ma) (hs : swapsWith a (some (.Attribute o x pos')) pos.line X.env = pure false := by rfl) :
    FS X g W (.Assign [.Attribute o x pos'] a pos) (sFld na f mo ma) := by
  refine PS.imp (ps_fld ho hv hs) ?_
  rintro D σ H ⟨ρ, env, G, R, E, h⟩
  refine tE_run R E (h.ex E) fun v G1 ρ1 H1 x1 R1 h1 y r1 => tE_run R1 (E.ext x1) (h1.ex (E.ext x1)) fun d G2 ρ2 H2 x2 R2 h2 z r2 => ?_
  split at h2
  · rename_i G3 e
    obtain ⟨p, C, dx, fs, q1, q2, q3, q4, q5, x3, R3⟩ := setFld_of hi hn R2 r2 (r1.ext x2) e
    rw [hx] at q4 x3 R3
    exact ⟨p, C, dx, fs, q1, q2, q3, q4, q5, h2 ρ2 _ _ x3 R3 (((E.ext x1).ext x2).ext x3)⟩
  · exact h2.elim
/-- o.f op= a -/
def clsO (d : D) (G : Gh) : Option Nat := match d with
  | .ref i => (match G.ob i with
    | .ins c _ => some c
    | _ => none)
  | _ => none
def sFldAug (na : Nat → Nat → Bool) (f : Nat) (op : O2) (mo mv : Ev → M D) : Sm := fun env G => exS (mo env G) env fun d G1 => match fldO na f d G1 with
  | none => .no
  | some w => exS (mv env G1) env fun v G2 => match op w v G2 with
    | none => .no
    | some (z, G3) => if clsO d G3 = clsO d G1 then (match setFldO na f d z G3 with
      | some G4 => .nx env G4
      | none => .no) else .no
theorem fldO_of {ρ : List Addr} {G : Gh} {H : Hp} {f : Nat} {d w : D} {x : V} (hi : FnInj g) (hn : NaOk X.K g na) (R : Rep X.K g ρ G H) (rd : RV X.K g ρ H d x) (e : fldO na f d G = some w) :
    ∃ a c dx fs v, clsO d G = some c ∧ x = .ref a ∧ H a = some (.ins (g.ca c) dx fs) ∧ Cls X.K (g.ca c) ∧ NoAttr X.K (g.ca c) (g.fn f) ∧ fs.lookup (g.fn f) = some v ∧ RV X.K g ρ H w v := by
  unfold fldO at e
  split at e
  · rename_i i
    split at e
    · rename_i c fs ho
      split at e
      · rename_i hc
        obtain ⟨c1, c2⟩ := hn c f hc
        rw [RV] at rd
        obtain ⟨p, e1, e2⟩ := rd
        subst e2
        have o1 := R.obj _ _ e1
        rw [ho] at o1
        obtain ⟨dx, ws, hp, rm⟩ := o1
        obtain ⟨u, l, ru⟩ := RM.fld hi rm e
        exact ⟨p, c, dx, ws, u, by unfold clsO; simp only [ho], rfl, hp, c1, c2, l, ru⟩
      · cases e
    · cases e
  · cases e
theorem clsO_of {ρ : List Addr} {G : Gh} {H : Hp} {d : D} {a : Addr} {c : Nat} {C dx : Addr} {fs : List (Str × V)} (R : Rep X.K g ρ G H) (rd : RV X.K g ρ H d (.ref a)) (e : clsO d G = some c) (h : H a = some (.ins C dx fs)) : C = g.ca c := by
  unfold clsO at e
  split at e
  · rename_i i
    split at e
    · rename_i c' fs' ho
      cases e
      rw [RV] at rd
      obtain ⟨p, e1, e2⟩ := rd
      cases e2
      have o1 := R.obj _ _ e1
      rw [ho] at o1
      obtain ⟨dx', ws, hp, rm⟩ := o1
      rw [h] at hp
      cases hp
      rfl
    · cases e
  · cases e
theorem fs_fldaug {op : Operator} {f : Nat} {x : Str} {h2 : O2} (hx : g.fn f = x) (hi : FnInj g) (hn : NaOk X.K g na) (hop : OpF X g (inplaceOp op) h2) (ho : FE X g W o mo) (hv : FE X g W a ma) : FS X g W (.AugAssign (.Attribute o x tpos) op a pos) (sFldAug na f h2 mo ma) := by
  have hop' : InOp X op (rF X.K g h2) := fun pins s σ H x y u v Q I rx ry q => hop pins s σ H x y u v Q I rx ry q
  refine PS.imp (ps_fldaug ho hv hop') ?_
  rintro D σ H ⟨ρ, env, G, R, E, h⟩
  refine tE_run R E (h.ex E) fun d G1 ρ1 H1 x1 R1 h1 y r1 => ?_
  split at h1
  · exact h1.elim
  · rename_i w z
    obtain ⟨p, c, dx, fs, u, q0, q1, q2, q3, q4, q5, ru⟩ := fldO_of hi hn R1 r1 z
    rw [hx] at q4 q5
    refine ⟨p, _, dx, fs, u, q1, q2, q3, q4, q5, tE_run R1 (E.ext x1) (h1.ex (E.ext x1)) fun v G2 ρ2 H2 x2 R2 h3 z r2 => ?_⟩
    split at h3
    · exact h3.elim
    · rename_i d' G3 e3
      refine ⟨ρ2, G2, w, v, R2, ru.ext x2, r2, d', G3, e3, fun y' ρ3 H3 x3 R3 r3 => ?_⟩
      split at h3
      · rename_i hcc
        split at h3
        · rename_i G4 e4
          have rd := (r1.ext x2).ext x3
          obtain ⟨p', C', dx', fs', w1, w2, w3, w4, w5, x4, R4⟩ := setFld_of hi hn R3 rd r3 e4
          rw [q1] at w1 rd
          cases w1
          have hC := clsO_of R3 rd (hcc.trans q0) w2
          subst hC
          rw [hx] at x4 R4
          exact ⟨dx', fs', w2, w5, h3 ρ3 _ _ (x3.trans x4) R4 ((((E.ext x1).ext x2).ext x3).ext x4)⟩
        · exact h3.elim
      · exact h3.elim
/-- a name op= a -/
def sAug (i : Nat) (op : O2) (m : Ev → M D) : Sm := fun env G => match env[i]? with
  | some (some w) => exS (m env G) env fun v G1 => (match op w v G1 with
    | some (z, G2) => .nx (env.set i (some z)) G2
    | none => .no)
  | _ => .no
theorem fs_aug (i : Nat) {op : Operator} {x : Str} {pos' : Pos} {h2 : O2} (hN : X.N.Nodup) (hi : X.N[i]? = some x) (hx : Loc X.env.scope x) (hf : X.fn x = true ∨ X.env.scope.names.lookup x = some .local) (hop : OpF X g (inplaceOp op) h2) (hv : FE X g W a ma) : FS X g W (.AugAssign (.Name x pos') op a pos) (sAug i h2 ma) := by
  have hop' : PIp X op (rF X.K g h2) := fun pins s σ H x y u v Q I rx ry q => hop pins s σ H x y u v Q I rx ry q
  refine PS.imp (ps_aug hN hi hx hv hop' hf) ?_
  rintro D σ H ⟨ρ, env, G, R, E, h⟩
  unfold sAug at h
  split at h
  · rename_i w e
    obtain ⟨u, e1, ru⟩ := E.get e
    refine ⟨u, e1, tE_run R E (h.ex E) fun v G1 ρ1 H1 x1 R1 h1 y r1 => ?_⟩
    split at h1
    · rename_i z G2 e2
      exact ⟨ρ1, G1, w, v, R1, ru.ext x1, r1, z, G2, e2, fun y' ρ2 H2 x2 R2 r2 => h1 ρ2 H2 _ x2 R2 (RE.set r2 i ((E.ext x1).ext x2))⟩
    · exact h1.elim
  · exact h.elim
/-- += of ints and texts -/
def opIadd : O2 := fun x y G => match x, y with
  | .int i, .int j => some (.int (i + j), G)
  | .str a, .str b => if a.length + b.length ≤ sizeLine then some (.str (a ++ b), G) else none
  | _, _ => none
theorem of_iadd : OpF X g (inplaceOp .Add) opIadd := by
  intro pins s σ H x y v u Q I rx ry hh
  obtain ⟨ρ, G, a, b, R, ra, rb, d, G', e, k⟩ := hh
  unfold opIadd at e
  split at e
  · cases (show x = .int _ from ra); cases (show y = .int _ from rb); cases e
    exact iop_add pins s σ H _ _ v u Q I rx ry ⟨_, _, rfl, rfl, k _ ρ H (.refl _ _) R rfl⟩
  · cases (show x = .str _ from ra); cases (show y = .str _ from rb)
    split at e
    · cases e
      exact iop_add_str pins s σ H _ _ v u Q I rx ry ⟨_, _, rfl, rfl, by assumption, k _ ρ H (.refl _ _) R rfl⟩
    · cases e
  · cases e
theorem of_isub : OpF X g (inplaceOp .Sub) opSub := by
  intro pins s σ H x y v u Q I rx ry hh
  obtain ⟨ρ, G, a, b, R, ra, rb, d, G', e, k⟩ := hh
  unfold opSub at e
  split at e
  · cases (show x = .int _ from ra); cases (show y = .int _ from rb); cases e
    exact iop_sub pins s σ H _ _ v u Q I rx ry ⟨_, _, rfl, rfl, k _ ρ H (.refl _ _) R rfl⟩
  · cases e
/-- o[i] = v -/
def setO (o i v : D) (G : Gh) : Option Gh := match o with
  | .ref l => (match G.ob l with
    | .lst xs => (match i with
      | .int k => (match ixN xs.length k with
        | some j => some (G.set l (.lst (xs.set j v)))
        | none => none)
      | _ => none)
    | .dct kvs => (match keyD i with
      | some k => if kvs.length < sizeLine then some (G.set l (.dct (putD kvs k v))) else none
      | none => none)
    | _ => none)
  | _ => none
def sSub (mo mi mv : Ev → M D) : Sm := fun env G => exS (mv env G) env fun v G1 => exS (mo env G1) env fun d G2 => exS (mi env G2) env fun i G3 => match setO d i v G3 with
  | some G4 => .nx env G4
  | none => .no
theorem RM.keys {K : PySem.W.Frag} {ρ : List Addr} {H : Hp} {κ κ' : Type} {f : κ → κ'} : ∀ {l : List (κ × D)} {ws : List (κ' × V)}, RM K g ρ H f l ws → ws.map (·.1) = l.map fun p => f p.1
  | [], _, h => by rw [RM] at h; subst h; rfl
  | (j, e) :: t, _, h => by
    rw [RM] at h
    obtain ⟨w, q, z, h1, h2⟩ := h
    subst z
    rw [List.map_cons, List.map_cons, RM.keys h2]
theorem RM.put {K : PySem.W.Frag} {ρ : List Addr} {H : Hp} {κ : Type} [DecidableEq κ] {k : κ} {d : D} {v : V} (r : RV K g ρ H d v) : ∀ {l : List (κ × D)} {ws : List (κ × V)}, RM K g ρ H id l ws → (l.map (·.1)).Nodup → RM K g ρ H id (putD l k d) (putK ws k v)
  | [], _, h, _ => by
    rw [RM] at h; subst h
    rw [putD]
    unfold putK
    simp only [List.any_nil, Bool.false_eq_true, if_false, List.nil_append]
    rw [RM]
    exact ⟨v, [], rfl, r, by rw [RM]⟩
  | (j, e) :: t, _, h, nd => by
    rw [RM] at h
    obtain ⟨w, q, z, h1, h2⟩ := h
    subst z
    rw [List.map_cons, List.nodup_cons] at nd
    have ih := RM.put (k := k) r h2 nd.2
    by_cases z : j = k
    · subst z
      have e2 : putK ((id j, w) :: q) j v = (j, v) :: q := by
        unfold putK
        rw [List.any_cons, show decide ((id j, w).1 = j) = true from decide_eq_true rfl, Bool.true_or, if_pos rfl, List.map_cons, if_pos (show (id j, w).1 = j from rfl)]
        show (j, v) :: _ = _
        congr 1
        refine (List.map_congr_left fun p hp => if_neg fun e => nd.1 ?_).trans (List.map_id _)
        have hk := RM.keys h2
        have hm : p.1 ∈ q.map (·.1) := List.mem_map.mpr ⟨p, hp, rfl⟩
        rw [hk, e] at hm
        exact hm
      rw [putD, if_pos rfl, e2, RM]
      exact ⟨v, q, rfl, r, h2⟩
    · have e2 : putK ((id j, w) :: q) k v = (id j, w) :: putK q k v := by
        unfold putK
        rw [List.any_cons, show decide ((id j, w).1 = k) = false from decide_eq_false z, Bool.false_or]
        split
        · rw [List.map_cons, if_neg (show ¬ (id j, w).1 = k from z)]
        · rfl
      rw [putD, if_neg z, e2, RM]
      exact ⟨w, _, rfl, h1, ih⟩
theorem putD_keys {κ : Type} [DecidableEq κ] {k : κ} {d : D} : ∀ (l : List (κ × D)) x, x ∈ (putD l k d).map (·.1) → x = k ∨ x ∈ l.map (·.1)
  | [], x, h => by
    rw [putD] at h
    exact .inl (by simpa using h)
  | (j, e) :: t, x, h => by
    by_cases z : j = k
    · rw [putD, if_pos z] at h
      exact .inr h
    · rw [putD, if_neg z, List.map_cons, List.mem_cons] at h
      rcases h with h | h
      · exact .inr (by rw [List.map_cons]; exact List.mem_cons.mpr (.inl h))
      · rcases putD_keys t x h with h | h
        · exact .inl h
        · exact .inr (by rw [List.map_cons]; exact List.mem_cons_of_mem _ h)
theorem putD_nodup {κ : Type} [DecidableEq κ] {k : κ} {d : D} : ∀ {l : List (κ × D)}, (l.map (·.1)).Nodup → ((putD l k d).map (·.1)).Nodup
  | [], _ => by rw [putD]; simp
  | (j, e) :: t, h => by
    rw [List.map_cons, List.nodup_cons] at h
    by_cases z : j = k
    · rw [putD, if_pos z, List.map_cons, List.nodup_cons]
      exact h
    · rw [putD, if_neg z, List.map_cons, List.nodup_cons]
      refine ⟨fun m => ?_, putD_nodup h.2⟩
      rcases putD_keys t _ m with q | q
      · exact z q
      · exact h.1 q
/-- by values -/
def rSetF (K : PySem.W.Frag) (g : Tg) : TSet := fun o i v H Q => ∃ ρ G a b c, Rep K g ρ G H ∧ RV K g ρ H a o ∧ RV K g ρ H b i ∧ RV K g ρ H c v ∧ ∃ G', setO a b c G = some G' ∧ ∀ H', Ext ρ H ρ H' → Rep K g ρ G' H' → Q H'
theorem set_of (hu : X.A.units + 1 < cLine) : PSet X (rSetF X.K g) := by
  intro pins s σ H o i v ov iv u Q I ro ri rv hh
  obtain ⟨ρ, G, a, b, c, R, ra, rb, rc, G', e, k⟩ := hh
  unfold setO at e
  split at e
  · rename_i l
    rw [RV] at ra
    obtain ⟨p, q, z⟩ := ra
    subst z
    have o1 := R.obj _ _ q
    split at e
    · rename_i xs ho
      rw [ho] at o1
      obtain ⟨vs, hp, r⟩ := o1
      split at e
      · rename_i kk
        cases (show i = .int kk from rb)
        split at e
        · rename_i j hj
          cases e
          obtain ⟨R2, x2⟩ := R.write (o := .lst (vs.set j v)) (ob := .lst (xs.set j c)) q (by rw [ho]; rfl) fun x => ⟨_, upd_same, (r.set rc j).ext x⟩
          exact set_list pins s σ H _ _ v ov iv u Q I ro ri rv ⟨p, vs, kk, j, rfl, rfl, hp, by rw [r.len]; exact hj, k _ x2 R2⟩
        · cases e
      · cases e
    · rename_i kvs ho
      rw [ho] at o1
      obtain ⟨ws, hp, r, nd⟩ := o1
      split at e
      · rename_i kk hk
        split at e
        · rename_i hz
          cases e
          obtain rfl : ov = Value.ref p := ro
          obtain ⟨R2, x2⟩ := R.write (o := .dK (putK ws kk v)) (ob := .dct (putD kvs kk c)) q (by rw [ho]; rfl) fun x => ⟨_, upd_same, (RM.put rc r nd).ext x, putD_nodup nd⟩
          exact d_setItem hu I (.inl ⟨ws, kk, hp, key_of' rb hk, by rw [r.len]; exact hz, rfl⟩) ri rv fun s4 I4 => ⟨_, I4, k _ x2 R2⟩
        · cases e
      · cases e
    · cases e
  · cases e
theorem fs_sub {b : Expr} {mi : Ev → M D} {pos' : Pos} (hu : X.A.units + 1 < cLine) (ho : FE X g W o mo) (hi : FE X g W b mi) (hv : FE X g W a ma) (hs : swapsWithSole [.Subscript o b pos'] a pos.line X.env = pure false := by rfl) (hw : swappedStores [.Subscript o b pos'] a X.env = pure none := by rfl)
    (h1 : (assignEach [.Subscript o b pos'] X.env).map (·.2) = [assign (.Subscript o b pos') X.env] := by rfl)
    (q : ∀ v, assign (.Subscript o b pos') X.env v = (do let ov ← holding [v] (eval o X.env); let iv ← holding [v, ov] (eval b X.env); standAt pos'; holding [v, ov, iv] (setItem ov iv v); release [v, ov, iv] []) := by intro _; rfl) :
    FS X g W (.Assign [.Subscript o b pos'] a pos) (sSub mo mi ma) := by
  refine PS.imp (ps_asg hv (pg_sub ho hi (set_of (g := g) hu) q) hs hw h1) ?_
  rintro D σ H ⟨ρ, env, G, R, E, h⟩
  refine tE_run R E (h.ex E) fun v G1 ρ1 H1 x1 R1 h1 y r1 => tE_run R1 (E.ext x1) (h1.ex (E.ext x1)) fun d G2 ρ2 H2 x2 R2 h2 z r2 => tE_run R2 ((E.ext x1).ext x2) (h2.ex ((E.ext x1).ext x2)) fun i G3 ρ3 H3 x3 R3 h3 w r3 => ?_
  split at h3
  · rename_i G4 e
    exact ⟨ρ3, G3, d, i, v, R3, r2.ext x3, r3, (r1.ext x2).ext x3, G4, e, fun H4 x4 R4 => h3 ρ3 H4 _ x4 R4 ((((E.ext x1).ext x2).ext x3).ext x4)⟩
  · exact h3.elim
/-- an object of the heap -/
def isRef : D → Bool
  | .ref _ => true
  | _ => false
/-- o[i] op= v -/
def sSubAug (op : O2) (mo mi mv : Ev → M D) : Sm := fun env G => exS (mo env G) env fun d G1 => exS (mi env G1) env fun i G2 => match ixD d i G2 with
  | none => .no
  | some w => if isRef d = true then exS (mv env G2) env fun v G3 => (match op w v G3 with
    | none => .no
    | some (z, G4) => match setO d i z G4 with
      | some G5 => .nx env G5
      | none => .no) else .no
def rGetF (K : PySem.W.Frag) (g : Tg) : V → V → Hp → VK → Prop := fun o i H Q => ∃ ρ G a b, Rep K g ρ G H ∧ RV K g ρ H a o ∧ RV K g ρ H b i ∧ (∃ l, a = .ref l) ∧ ∃ d, ixD a b G = some d ∧ ∀ v, RV K g ρ H d v → Q v H
theorem get_of (hu : X.A.units + 1 < cLine) : PGet X (rGetF X.K g) := by
  intro pins s σ H o i ov iv Q I ro ri hh
  obtain ⟨ρ, G, a, b, R, ra, rb, ⟨l, el⟩, d, e, k⟩ := hh
  subst el
  rw [RV] at ra
  obtain ⟨p, q, z⟩ := ra
  subst z
  have o1 := R.obj _ _ q
  unfold ixD at e
  dsimp only at e
  obtain rfl : ov = Value.ref p := ro
  split at e
  · rename_i xs ho
    rw [ho] at o1
    obtain ⟨vs, hp, r⟩ := o1
    split at e
    · rename_i kk
      cases (show i = .int kk from rb)
      obtain ⟨w, ew, rw'⟩ := RVs.atI r e
      obtain ⟨t, rfl⟩ := ri
      obtain ⟨its, n, r2, ho2, hz⟩ := I.lst hp
      obtain ⟨j, h1, h2, h3, h4, h5⟩ := atI_get ew
      obtain ⟨w2, ew2, rw2⟩ := r2.get h2
      have hl := r2.length
      have hn := line63
      have fin : EP X pins σ Q w2 s := ⟨w, H, I, rw2, k w rw'⟩
      have hL : s.heap.IsList p its.toArray := ⟨_, ho2, rfl, n, rfl⟩
      by_cases h0 : 0 ≤ kk
      · have hj : kk.toNat = j := by
          rw [seqIndex_of h0 h5] at h1
          exact Option.some.inj h1
        exact wpAny_getItem_list hL h0 (by omega) (by rw [hj]; simpa using ew2) fin
      · have hj : (kk + (its.toArray.size : Int)).toNat = j := by
          rw [seqIndex_neg (by omega) h4] at h1
          have := Option.some.inj h1
          simp only [List.size_toArray]
          rw [← hl]; exact this
        exact PySem.wpAny_getItem_list_neg hL (by omega) (by simp only [List.size_toArray]; omega) (by omega) (by rw [hj]; simpa using ew2) fin
    · cases e
  · rename_i kvs ho
    rw [ho] at o1
    obtain ⟨ws, hp, r, nd⟩ := o1
    obtain ⟨kk', z1, z2⟩ := Option.bind_eq_some_iff.mp e
    obtain ⟨w, ew, rw'⟩ := (RM.val r).1 _ z2
    exact d_getItem hu I (.inl ⟨ws, kk', .inl hp, key_of' rb z1, ew.symm⟩) ri fun w' s3 I3 rw2 => ⟨w, H, I3, rw2, k w rw'⟩
  · rename_i kvs ho
    rw [ho] at o1
    obtain ⟨ob, ws, hp, r, nd⟩ := o1
    obtain ⟨kk', z1, z2⟩ := Option.bind_eq_some_iff.mp e
    obtain ⟨w, ew, rw'⟩ := (RM.val r).1 _ z2
    exact d_getItem hu I (.inl ⟨ws, kk', .inr ⟨ob, hp⟩, key_of' rb z1, ew.symm⟩) ri fun w' s3 I3 rw2 => ⟨w, H, I3, rw2, k w rw'⟩
  · cases e
theorem ixD_ref {d i w : D} {G : Gh} (h : ixD d i G = some w) (n : isRef d = true) : ∃ l, d = .ref l := by
  cases d with
  | ref l => exact ⟨l, rfl⟩
  | _ => cases n
theorem fs_subaug {op : Operator} {b : Expr} {mi : Ev → M D} {f2 : O2} (hu : X.A.units + 1 < cLine) (ho : FE X g W o mo) (hi : FE X g W b mi) (hop : OpF X g (inplaceOp op) f2) (hv : FE X g W a ma)
    (q : ∀ ov iv new, augStore b ov iv new = (do holding [new, ov, iv] (setItem ov iv new); release [new, ov, iv] []; pure .next) := by intros; rfl) : FS X g W (.AugAssign (.Subscript o b tpos) op a pos) (sSubAug f2 mo mi ma) := by
  have hop' : PIp X op (rF X.K g f2) := fun pins s σ H x y u v Q I rx ry q => hop pins s σ H x y u v Q I rx ry q
  refine PS.imp (ps_augS ho hi (get_of (g := g) hu) hv hop' (set_of (g := g) hu) q) ?_
  rintro D σ H ⟨ρ, env, G, R, E, h⟩
  refine tE_run R E (h.ex E) fun d G1 ρ1 H1 x1 R1 h1 y r1 => tE_run R1 (E.ext x1) (h1.ex (E.ext x1)) fun i G2 ρ2 H2 x2 R2 h2 z r2 => ?_
  have E2 := (E.ext x1).ext x2
  split at h2
  · exact h2.elim
  · rename_i w e1
    split at h2
    · rename_i hr
      obtain ⟨l, hl⟩ := ixD_ref e1 hr
      refine ⟨ρ2, G2, d, i, R2, r1.ext x2, r2, ⟨l, hl⟩, w, e1, fun u ru => tE_run R2 E2 (h2.ex E2) fun v G3 ρ3 H3 x3 R3 h3 y3 r3 => ?_⟩
      split at h3
      · exact h3.elim
      · rename_i d' G4 e4
        refine ⟨ρ3, G3, w, v, R3, ru.ext x3, r3, d', G4, e4, fun y4 ρ4 H4 x4 R4 r4 => ?_⟩
        split at h3
        · rename_i G5 e5
          exact ⟨ρ4, G4, d, i, d', R4, ((r1.ext x2).ext x3).ext x4, (r2.ext x3).ext x4, r4, G5, e5, fun H5 x5 R5 => h3 ρ4 H5 _ (x4.trans x5) R5 (((E2.ext x3).ext x4).ext x5)⟩
        · exact h3.elim
    · exact h2.elim
end
end Mi
/-! F, part 6: raise, try, loops, comprehensions. -/
namespace Mi
open PySem PySem.Spec PyProof.Rows L2

/-! ### raise -/
/-- what a class must be that is raised -/
structure ExcOk (K : PySem.W.Frag) (a : Addr) : Prop where
  q : PySem.W.excIn K a He.veBase "ValueError.__new__" = true
  kp : PySem.W.keepIn K (.ref a) = true
  sub : PySem.W.subIn K (.ref a) (.type "BaseException") = some true
  ty : PySem.W.typeIn K (.ref a) = some (.type "type")
def sRaise (c : Nat) : Sm := fun env G => .er c env G
section
variable {X : Cx} {g : Tg} {W : WX} {pos pos' tpos p p2 np : Pos} {a b e o : Expr} {ma mb mo : Ev → M D} {st b₀ : Stmt} {rest sa sb body suite : List Stmt} {m n m' : Sm}
theorem fs_raise {c j : Nat} {x z : Str} (hc : X.calm = true) (tk : L2N.Takes X W) (hx : ExcOk X.K (g.ca c)) (gC : X.mg x = some (.ref (g.ca c))) (hg : Gl X x) (hd : (x == ("__debug__" : Str)) = false := by decide) :
    FS X g W (.Raise (some (.Call (.Name x p) [.Constant (.str z) j p2] [] pos)) none pos') (sRaise c) := by
  refine PS.imp (L2N.ps_raise hc tk (L2N.pmk_own PySem.F.excBase_ValueError hx.q gC hx.kp (raises_own hx.sub hx.ty) hg hd)) ?_
  rintro D σ H ⟨ρ, env, G, R, E, h⟩
  exact h ρ H σ (.refl _ _) R E

/-! ### try -/
def Ro.clr (i : Nat) : Ro → Ro
  | .nx env G => .nx (env.set i none) G
  | .rt d G => .rt d G
  | .bk env G => .bk (env.set i none) G
  | .ct env G => .ct (env.set i none) G
  | .er _ _ _ => .no
  | .no => .no
def Ro.noE : Ro → Ro
  | .er _ _ _ => .no
  | r => r
/-- sb c: whether the clause names the class c -/
def sTryAs (sb : Nat → Option Bool) (i : Nat) (mb : Sm) (hm : Nat → Sm) : Sm := fun env G => match mb env G with
  | .er c env' G' => (match sb c with
    | some true => if i < env'.length then (hm c env' G').clr i else .no
    | some false => .er c env' G'
    | none => .no)
  | r => r
def sTry (sb : Nat → Option Bool) (mb : Sm) (hm : Sm) : Sm := fun env G => match mb env G with
  | .er c env' G' => (match sb c with
    | some true => (hm env' G').noE
    | some false => .er c env' G'
    | none => .no)
  | r => r
theorem RE.len {K : PySem.W.Frag} {ρ : List Addr} {H : Hp} : ∀ {env : Ev} {σ : St}, RE K g ρ H env σ → σ.length = env.length
  | [], _, h => by rw [RE] at h; subst h; rfl
  | none :: r, _, h => by
    rw [RE] at h
    obtain ⟨y, q, e, h2⟩ := h
    subst e
    rw [List.length_cons, List.length_cons, RE.len h2]
  | some d :: r, _, h => by
    rw [RE] at h
    obtain ⟨v, q, e, _, h2⟩ := h
    subst e
    rw [List.length_cons, List.length_cons, RE.len h2]
theorem fs_tryAs {cc i : Nat} {x y : Str} {sb : Nat → Option Bool} {hm : Nat → Sm} {hm' : Addr → Nat → Sm} (hs : X.stack = X.env :: X.outer) (hf : X.env.frame = some X.env.locals) (hN : X.N.Nodup) (hi : X.N[i]? = some y) (hln : X.env.kindOf y = some .local)
    (hc : Names X x (.ref (g.ca cc))) (tk : L2N.Takes X W) (hsb : ∀ c b, sb c = some b → PySem.W.exmOne X.K (.ref (g.ca c)) (.ref (g.ca cc)) = some b)
    (hb : ∀ (W : WX) (pn : List (Addr × Obj)) (xe : Value → Shared → Prop), L2N.Takes (X.tr pn xe) W → PassesOwn (model X.prog X.w) X.A X.env xe → FSs (X.tr pn xe) g W body m)
    (hsu : ∀ (a : Addr) (oe : Obj) (c : Nat) (pn : List (Addr × Obj)), L2N.Zn (.ref (g.ca c)) none oe → (∃ vs, oe.data = .fields vs) → FSs (X.suite a ((a, oe) :: pn)) g (fun _ _ _ _ => False) (b₀ :: suite) (hm' a c))
    (he : ∀ a c env G, i < env.length → (hm' a c (env.set i (some (.exc a))) G).clr i = (hm c env G).clr i) :
    FS X g W (.Try body [.ExceptHandler (some (.Name x np)) (some y) (b₀ :: suite) pos'] [] [] pos) (sTryAs sb i m hm) := by
  have hsu' : ∀ (a : Addr) (oe : Obj) (cls : Value) (d : Option Addr) (pn : List (Addr × Obj)), L2N.Zn cls d oe → (∃ vs, oe.data = .fields vs) →
      PSs (X.suite a ((a, oe) :: pn)) (b₀ :: suite) (fun D σ H => ∃ c, cls = .ref (g.ca c) ∧ d = none ∧ tS X.K g (fun _ _ _ _ => False) (hm' a c) D σ H) := fun a oe cls d pn z v =>
    ⟨fun pins s σ H D I q => by
      obtain ⟨c, e1, e2, q⟩ := q
      subst e1 e2
      exact (hsu a oe c pn z v).run pins s σ H D I q⟩
  refine PS.imp (L2N.ps_try_as hs hf hN hi hln hc tk (tb := fun W' => tS X.K g W' m) hb hsu') ?_
  rintro D σ H ⟨ρ, env, G, R, E, h⟩
  refine ⟨ρ, env, G, R, E, ?_⟩
  unfold sTryAs at h
  cases z : m env G with
  | er c env' G' =>
    rw [z] at h
    dsimp only at h
    intro ρ' H' σ' x1 R1 E1
    cases zb : sb c with
    | none => rw [zb] at h; exact h.elim
    | some b =>
      rw [zb] at h
      refine ⟨b, hsb c b zb, fun eb a ha => ?_, fun eb => ?_⟩
      · subst eb
        refine ⟨c, rfl, rfl, ρ', _, G', R1, RE.set (d := .exc a) rfl i E1, ?_⟩
        dsimp only at h
        split at h
        · rename_i hl
          have h := h.start x1
          rw [← he a c env' G' hl] at h
          cases z2 : hm' a c (env'.set i (some (.exc a))) G' with
          | nx e2 G2 =>
            rw [z2] at h
            exact fun ρ2 H2 σ2 x2 R2 E2 => h ρ2 H2 _ x2 R2 (RE.unset i none E2)
          | rt d G2 => rw [z2] at h; exact h
          | bk e2 G2 =>
            rw [z2] at h
            exact fun ρ2 H2 σ2 x2 R2 E2 => h ρ2 H2 _ x2 R2 (RE.unset i none E2)
          | ct e2 G2 =>
            rw [z2] at h
            exact fun ρ2 H2 σ2 x2 R2 E2 => h ρ2 H2 _ x2 R2 (RE.unset i none E2)
          | er c2 e2 G2 => rw [z2] at h; exact h.elim
          | no => rw [z2] at h; exact h.elim
        · exact h.elim
      · subst eb
        exact h ρ' H' σ' x1 R1 E1
  | nx env' G' => rw [z] at h; exact h
  | rt d G' => rw [z] at h; exact h
  | bk env' G' => rw [z] at h; exact h
  | ct env' G' => rw [z] at h; exact h
  | no => rw [z] at h; exact h
theorem fs_try {cc : Nat} {x : Str} {sb : Nat → Option Bool} {hm : Sm} (hs : X.stack = X.env :: X.outer) (hf : X.env.frame = some X.env.locals)
    (hc : Names X x (.ref (g.ca cc))) (tk : L2N.Takes X W) (hsb : ∀ c b, sb c = some b → PySem.W.exmOne X.K (.ref (g.ca c)) (.ref (g.ca cc)) = some b)
    (hb : ∀ (W : WX) (pn : List (Addr × Obj)) (xe : Value → Shared → Prop), L2N.Takes (X.tr pn xe) W → PassesOwn (model X.prog X.w) X.A X.env xe → FSs (X.tr pn xe) g W body m)
    (hsu : ∀ (a : Addr) (oe : Obj) (cls : Value) (d : Option Addr) (pn : List (Addr × Obj)), L2N.Zn cls d oe → (∃ vs, oe.data = .fields vs) → FSs (X.suite a ((a, oe) :: pn)) g (fun _ _ _ _ => False) (b₀ :: suite) hm) :
    FS X g W (.Try body [.ExceptHandler (some (.Name x np)) none (b₀ :: suite) pos'] [] [] pos) (sTry sb m hm) := by
  refine PS.imp (L2N.ps_try_many hs hf tk (tb := fun W' => tS X.K g W' m) hb (.cons (ts := fun _ _ _ => tS X.K g (fun _ _ _ _ => False) hm) hc hsu .nil)) ?_
  rintro D σ H ⟨ρ, env, G, R, E, h⟩
  refine ⟨ρ, env, G, R, E, ?_⟩
  unfold sTry at h
  cases z : m env G with
  | er c env' G' =>
    rw [z] at h
    dsimp only at h
    intro ρ' H' σ' x1 R1 E1
    cases zb : sb c with
    | none => rw [zb] at h; exact h.elim
    | some b =>
      rw [zb] at h
      refine ⟨b, hsb c b zb, fun eb a ha => ?_, fun eb => ?_⟩
      · subst eb
        refine ⟨ρ', _, G', R1, E1, ?_⟩
        have h := h.start x1
        dsimp only at h
        cases z2 : hm env' G' with
        | er c2 e2 G2 => rw [z2] at h; exact h.elim
        | nx e2 G2 => rw [z2] at h; exact h
        | rt d G2 => rw [z2] at h; exact h
        | bk e2 G2 => rw [z2] at h; exact h
        | ct e2 G2 => rw [z2] at h; exact h
        | no => rw [z2] at h; exact h
      · subst eb
        exact h ρ' H' σ' x1 R1 E1
  | nx env' G' => rw [z] at h; exact h
  | rt d G' => rw [z] at h; exact h
  | bk env' G' => rw [z] at h; exact h
  | ct env' G' => rw [z] at h; exact h
  | no => rw [z] at h; exact h

/-! ### what a loop walks -/
/-- n: turns at most; at_ i: the item of turn i, or the end -/
structure Im where
  n : Nat
  at_ : Nat → Gh → Option (Option D)
def ItOk (K : PySem.W.Frag) (g : Tg) (ρ0 : List Addr) (H0 : Hp) (J : It) (it : Im) : Prop := ∀ i ρ G H, Ext ρ0 H0 ρ H → Rep K g ρ G H →
  (it.at_ i G = some none → J.stop i H) ∧ ∀ d, it.at_ i G = some (some d) → J.go i H ∧ ∀ x H', J.yld i H x H' → Ext ρ H ρ H' ∧ Rep K g ρ G H' ∧ RV K g ρ H' d x
def tI (K : PySem.W.Frag) (g : Tg) (W : WX) (m : Ev → M Im) : TI := fun σ H R => ∃ ρ env G, Rep K g ρ G H ∧ RE K g ρ H env σ ∧ Po K g W σ ρ H (m env G) fun it _ ρ' H' => ∀ J, ItOk K g ρ' H' J it → R J H'
abbrev FI (X : Cx) (g : Tg) (W : WX) (tg iter : Expr) (m : Ev → M Im) : Prop := PI X tg iter (tI X.K g W m)
theorem PI.imp {tg iter : Expr} {t t' : TI} (h : PI X tg iter t) (k : ∀ σ H R, t' σ H R → t σ H R) : PI X tg iter t' := ⟨fun pins s σ H R I q => h.run pins s σ H R I (k σ H R q)⟩
theorem tI_of {mi : Ev → M Im} {σ : St} {H : Hp} {R : It → Hp → Prop} {ma : Ev → M D} {f : D → Gh → Option Im} (hm : ∀ env G, mi env G = (ma env G).bind fun d G1 => match f d G1 with | some it => .ok it G1 | none => .no) (h : tI X.K g W mi σ H R) :
    tE X.K g W ma σ H fun x H1 => ∃ ρ G d it, Rep X.K g ρ G H1 ∧ RV X.K g ρ H1 d x ∧ f d G = some it ∧ ∀ J, ItOk X.K g ρ H1 J it → R J H1 := by
  obtain ⟨ρ, env, G, R0, E, h⟩ := h
  rw [hm] at h
  refine tE_run R0 E h.bind fun d G1 ρ1 H1 x1 R1 h1 v1 r1 => ?_
  cases z : f d G1 with
  | none => rw [z] at h1; exact h1.elim
  | some it => rw [z] at h1; exact ⟨ρ1, G1, d, it, R1, r1, z, h1.now R1⟩
/-- over a value: tuple, list, text -/
def seqI (d : D) (G : Gh) : Option Im := match d with
  | .tup xs => some ⟨xs.length, fun i _ => some xs[i]?⟩
  | .rol xs => some ⟨xs.length, fun i _ => some xs[i]?⟩
  | .str z => some ⟨z.cps.size, fun i _ => some (z.cps[i]?.map fun c => .str ⟨#[c]⟩)⟩
  | .ref l => (match G.ob l with
    | .lst xs => some ⟨xs.length, fun i G => match G.ob l with
      | .lst xs => some xs[i]?
      | _ => none⟩
    | _ => none)
  | _ => none
def iSeq (m : Ev → M D) : Ev → M Im := fun env G => (m env G).bind fun d G1 => match seqI d G1 with
  | some it => .ok it G1
  | none => .no
/-- what an iterator of the value x is -/
theorem it_any {pins : List (Addr × Obj)} {s : Shared} {σ : St} {H : Hp} {R : It → Hp → Prop} {tg : Expr} {E : Value → Shared → Prop} {x : V} {v : Value} (I : Inv X pins σ H s) (r : RelV x v)
    (h : (∃ a, x = .ref a ∧ (∃ xs, SqL X.K H a xs) ∧ R (Itl X.K a) H) ∨ (∃ a, x = .ref a ∧ (∃ xs, SqT X.K H a xs) ∧ R (Itt X.K a) H) ∨ ∃ y, x = .str y ∧ R (Its y) H) : wpAny (model X.prog X.w) X.A (pyIter v) (PIE X pins σ tg R) E s := by
  rcases h with ⟨a, ex, ⟨xs, hq⟩, q⟩ | ⟨a, ex, ⟨xs, hq⟩, q⟩ | ⟨y, ex, q⟩
  · rw [ex] at r
    obtain rfl : v = Value.ref a := r
    obtain ⟨its, _, p, _⟩ := I.list hq
    exact wpAny_pyIter_list p.isList (pi_one (tk := s.toks) I _ (turn_list a _) ⟨_, Heap.get?_push_size _ rfl, rfl, rfl⟩ q)
  · rw [ex] at r
    obtain rfl : v = Value.ref a := r
    obtain ⟨its, _, p, _⟩ := I.tuple hq
    exact wpAny_pyIter_tuple (show s.heap.IsTuple a its.toArray from p) (pi_one (tk := s.toks) I _ (turn_tuple a _) ⟨_, Heap.get?_push_size _ rfl, rfl, rfl⟩ q)
  · rw [ex] at r
    obtain ⟨t, et⟩ := r
    rw [et]
    by_cases ha : y.cps.all (· < 128) = true
    · exact wpAny_pyIter_ascii ha (pi_one (tk := s.toks) I _ (turn_str _ y t _ (.inl rfl)) ⟨_, Heap.get?_push_size _ rfl, rfl, rfl⟩ q)
    · exact wpAny_pyIter_wide (Bool.eq_false_iff.mpr ha) (pi_one (tk := s.toks) I _ (turn_str _ y t _ (.inr rfl)) ⟨_, Heap.get?_push_size _ rfl, rfl, rfl⟩ q)
theorem RVs.none_of {K : PySem.W.Frag} {ρ : List Addr} {H : Hp} {ds : List D} {vs : List V} {i : Nat} (r : RVs K g ρ H ds vs) (h : ds[i]? = none) : vs.length ≤ i := by
  rw [r.len]; exact List.getElem?_eq_none_iff.mp h
theorem fi_seq {tg : Expr} (ha : FE X g W a ma) : FI X g W tg a (iSeq ma) := by
  refine ⟨fun pins s σ H R I h => ?_⟩
  refine thn (ha.run pins s σ H _ I (tI_of (f := seqI) (fun _ _ => rfl) h)) fun v s1 hx => ?_
  obtain ⟨x, H1, I1, rx, ρ, G, d, it, R1, r1, e, k⟩ := hx
  refine it_any I1 rx ?_
  unfold seqI at e
  split at e
  · cases e
    rw [RV] at r1
    obtain ⟨p, vs, q, sq, r⟩ := r1
    refine .inr (.inl ⟨p, q, ⟨_, sq⟩, k _ fun i ρ' G' H' x' R' => ?_⟩)
    have sq' := keepT x'.kt sq
    have r' := r.ext x'
    refine ⟨fun z => ⟨vs, sq', r'.none_of (Option.some.inj z)⟩, fun d z => ?_⟩
    obtain ⟨w, ew, rw'⟩ := r'.get (Option.some.inj z)
    refine ⟨⟨vs, w, sq', ew⟩, fun y H2 hy => ?_⟩
    obtain ⟨e1, e2⟩ := hy
    rw [e1]
    have := e2 vs sq'
    rw [ew] at this; cases this
    exact ⟨.refl _ _, R', rw'⟩
  · cases e
    rw [RV] at r1
    obtain ⟨p, vs, q, sq, r⟩ := r1
    refine .inl ⟨p, q, ⟨_, sq.seq⟩, k _ fun i ρ' G' H' x' R' => ?_⟩
    have sq' := (sq.keep x'.kt).seq
    have r' := r.ext x'
    refine ⟨fun z => ⟨vs, sq', r'.none_of (Option.some.inj z)⟩, fun d z => ?_⟩
    obtain ⟨w, ew, rw'⟩ := r'.get (Option.some.inj z)
    refine ⟨⟨vs, w, sq', ew⟩, fun y H2 hy => ?_⟩
    obtain ⟨e1, e2⟩ := hy
    rw [e1]
    have := e2 vs sq'
    rw [ew] at this; cases this
    exact ⟨.refl _ _, R', rw'⟩
  · rename_i y
    cases e
    refine .inr (.inr ⟨y, r1, k _ fun i ρ' G' H' x' R' => ⟨fun z => ?_, fun d z => ?_⟩⟩)
    · have z' : (y.cps[i]?.map fun c => (D.str ⟨#[c]⟩)) = none := Option.some.inj z
      rw [Option.map_eq_none_iff] at z'
      exact Array.getElem?_eq_none_iff.mp z'
    · have z' : (y.cps[i]?.map fun c => (D.str ⟨#[c]⟩)) = some d := Option.some.inj z
      obtain ⟨c, e1, e2⟩ := Option.map_eq_some_iff.mp z'
      subst e2
      refine ⟨(Array.getElem?_eq_some_iff.mp e1).1, fun y' H2 hy => ?_⟩
      obtain ⟨e3, c', e4, e5⟩ := hy
      rw [e1] at e4; cases e4
      rw [e3, e5]
      exact ⟨.refl _ _, R', rfl⟩
  · rename_i l
    split at e
    · rename_i xs ho
      cases e
      rw [RV] at r1
      obtain ⟨p, q, z⟩ := r1
      have o := R1.obj _ _ q
      rw [ho] at o
      obtain ⟨vs, hp, r⟩ := o
      refine .inl ⟨p, z, ⟨_, .of hp⟩, k _ fun i ρ' G' H' x' R' => ?_⟩
      have o' := R'.obj _ _ (x'.pre _ _ q)
      refine ⟨fun z => ?_, fun d z => ?_⟩
      · dsimp only at z
        split at z
        · rename_i xs' ho'
          rw [ho'] at o'
          obtain ⟨vs', hp', r'⟩ := o'
          exact ⟨vs', .of hp', r'.none_of (Option.some.inj z)⟩
        · cases z
      · dsimp only at z
        split at z
        · rename_i xs' ho'
          rw [ho'] at o'
          obtain ⟨vs', hp', r'⟩ := o'
          obtain ⟨w, ew, rw'⟩ := r'.get (Option.some.inj z)
          refine ⟨⟨vs', w, .of hp', ew⟩, fun y H2 hy => ?_⟩
          obtain ⟨e1, e2⟩ := hy
          rw [e1]
          have := e2 vs' (.of hp')
          rw [ew] at this; cases this
          exact ⟨.refl _ _, R', rw'⟩
        · cases z
    · cases e
  · cases e
/-- range(n), range(i, j) -/
@[irreducible] def rngI (i j : Int) : Option Im := if -(2 ^ 62) ≤ i ∧ i < 2 ^ 62 ∧ -(2 ^ 62) ≤ j ∧ j < 2 ^ 62 then some ⟨(j - i).toNat, fun k _ => some (if k < (j - i).toNat then some (.int (i + k)) else none)⟩ else none
def rng1 (ds : List D) : Option Im := match ds with
  | [.int j] => rngI 0 j
  | _ => none
def rng2 (ds : List D) : Option Im := match ds with
  | [.int i, .int j] => rngI i j
  | _ => none
def iRng1' (n : Ev → M (List D)) : Ev → M Im := fun env G => (n env G).bind fun ds G1 => match rng1 ds with
  | some it => .ok it G1
  | none => .no
def iRng2' (n : Ev → M (List D)) : Ev → M Im := fun env G => (n env G).bind fun ds G1 => match rng2 ds with
  | some it => .ok it G1
  | none => .no
theorem itr_ok {ρ : List Addr} {H : Hp} {i : Int} {n : Nat} : ItOk X.K g ρ H (Itr i n) ⟨n, fun k _ => some (if k < n then some (.int (i + k)) else none)⟩ := by
  intro k ρ' G' H' x' R'
  refine ⟨fun z => ?_, fun d z => ?_⟩
  · have z := Option.some.inj z
    split at z
    · cases z
    · show n ≤ k
      omega
  · have z := Option.some.inj z
    split at z
    · rename_i hk
      cases z
      refine ⟨hk, fun y H2 hy => ?_⟩
      obtain ⟨e1, e2⟩ := hy
      rw [e1, e2]
      exact ⟨.refl _ _, R', rfl⟩
    · cases z
theorem RVs.one {K : PySem.W.Frag} {ρ : List Addr} {H : Hp} {d : D} {vs : List V} (r : RVs K g ρ H [d] vs) : ∃ v, vs = [v] ∧ RV K g ρ H d v := by
  rw [RVs] at r
  obtain ⟨v, q, e, r1, r2⟩ := r
  rw [RVs] at r2
  subst r2
  exact ⟨v, e, r1⟩
theorem RVs.two {K : PySem.W.Frag} {ρ : List Addr} {H : Hp} {d e : D} {vs : List V} (r : RVs K g ρ H [d, e] vs) : ∃ v w, vs = [v, w] ∧ RV K g ρ H d v ∧ RV K g ρ H e w := by
  rw [RVs] at r
  obtain ⟨v, q, e, r1, r2⟩ := r
  obtain ⟨w, rfl, r3⟩ := r2.one
  exact ⟨v, w, e, r1, r3⟩
theorem fi_rng1 {tg : Expr} {ms : Ev → M (List D)} (hg : Gl X "range") (hm : X.mg "range" = none) (ha : FA X g W [a] ms) (hs : starEach [a] X.env = [(false, eval a X.env)] := by rfl) : FI X g W tg (.Call (.Name "range" p) [a] [] pos) (iRng1' ms) := by
  refine PI.imp (pi_range1 hg hm ha hs) ?_
  rintro σ H R ⟨ρ, env, G, R0, E, h⟩
  refine tA_run R0 E h.bind fun ds G1 ρ1 H1 x1 R1 h1 vs r1 => ?_
  cases z : rng1 ds with
  | none => rw [z] at h1; exact h1.elim
  | some it =>
    rw [z] at h1
    have k := h1.now R1
    unfold rng1 at z
    split at z
    · rename_i j
      obtain ⟨v, e1, r2⟩ := r1.one
      cases (show v = .int j from r2)
      unfold rngI at z
      split at z
      · rename_i hz
        cases z
        exact ⟨j, e1, hz.2.2.1, hz.2.2.2, k _ (by rw [Int.sub_zero]; exact itr_ok)⟩
      · cases z
    · cases z
theorem fi_rng2 {tg : Expr} {ms : Ev → M (List D)} (hg : Gl X "range") (hm : X.mg "range" = none) (ha : FA X g W [a, b] ms) (hs : starEach [a, b] X.env = [(false, eval a X.env), (false, eval b X.env)] := by rfl) (hs2 : starEach [b] X.env = [(false, eval b X.env)] := by rfl) :
    FI X g W tg (.Call (.Name "range" p) [a, b] [] pos) (iRng2' ms) := by
  refine PI.imp (pi_range2 hg hm ha hs hs2) ?_
  rintro σ H R ⟨ρ, env, G, R0, E, h⟩
  refine tA_run R0 E h.bind fun ds G1 ρ1 H1 x1 R1 h1 vs r1 => ?_
  cases z : rng2 ds with
  | none => rw [z] at h1; exact h1.elim
  | some it =>
    rw [z] at h1
    have k := h1.now R1
    unfold rng2 at z
    split at z
    · rename_i i j
      obtain ⟨v, w, e1, r2, r3⟩ := r1.two
      cases (show v = .int i from r2)
      cases (show w = .int j from r3)
      unfold rngI at z
      split at z
      · rename_i hz
        cases z
        exact ⟨i, j, e1, hz, k _ itr_ok⟩
      · cases z
    · cases z
/-- reversed(range(n)), reversed(range(i, j)) -/
def revI (i j : Int) : Option Im := if -(2 ^ 62) ≤ i ∧ i < 2 ^ 62 ∧ -(2 ^ 62) ≤ j ∧ j < 2 ^ 62 then some ⟨(j - i).toNat, fun k _ => some (if k < (j - i).toNat then some (.int (i + (((j - i).toNat : Nat) : Int) - 1 + (k : Nat) * (-1))) else none)⟩ else none
theorem itc_ok {ρ : List Addr} {H : Hp} {i c : Int} {n : Nat} : ItOk X.K g ρ H (Itc i c n) ⟨n, fun k _ => some (if k < n then some (.int (i + (k : Nat) * c)) else none)⟩ := by
  intro k ρ' G' H' x' R'
  refine ⟨fun z => ?_, fun d z => ?_⟩
  · have z := Option.some.inj z
    split at z
    · cases z
    · show n ≤ k
      omega
  · have z := Option.some.inj z
    split at z
    · rename_i hk
      cases z
      refine ⟨hk, fun y H2 hy => ?_⟩
      obtain ⟨e1, e2⟩ := hy
      rw [e1, e2]
      exact ⟨.refl _ _, R', rfl⟩
    · cases z
/-- enumerate(list) -/
def enumI (ds : List D) (G : Gh) : Option Im := match ds with
  | [.ref l] => (match G.ob l with
    | .lst xs => some ⟨xs.length, fun i G => match G.ob l with
      | .lst xs => some (xs[i]?.map fun d => .tup [.int i, d])
      | _ => none⟩
    | _ => none)
  | _ => none
def iEnum' (n : Ev → M (List D)) : Ev → M Im := fun env G => (n env G).bind fun ds G1 => match enumI ds G1 with
  | some it => .ok it G1
  | none => .no
theorem fi_enum {elts : List Expr} {kk : Nat} {ms : Ev → M (List D)} (hg : Gl X "enumerate") (hm : X.mg "enumerate" = none) (ha : FA X g W [a] ms) (hs : starEach [a] X.env = [(false, eval a X.env)] := by rfl) : FI X g W (.Tuple elts kk tpos) (.Call (.Name "enumerate" p) [a] [] pos) (iEnum' ms) := by
  refine PI.imp (pi_enum hg hm ha hs) ?_
  rintro σ H R ⟨ρ, env, G, R0, E, h⟩
  refine tA_run R0 E h.bind fun ds G1 ρ1 H1 x1 R1 h1 vs r1 => ?_
  cases z : enumI ds G1 with
  | none => rw [z] at h1; exact h1.elim
  | some it =>
    rw [z] at h1
    have k := h1.now R1
    unfold enumI at z
    split at z
    · rename_i l
      split at z
      · rename_i xs ho
        cases z
        obtain ⟨v, e1, r2⟩ := r1.one
        rw [RV] at r2
        obtain ⟨a', q, ev⟩ := r2
        subst ev
        have o := R1.obj _ _ q
        rw [ho] at o
        obtain ⟨ws, hp, r⟩ := o
        refine ⟨a', ws, e1, .of hp, k _ fun i ρ' G' H' x' R' => ?_⟩
        have o' := R'.obj _ _ (x'.pre _ _ q)
        refine ⟨fun z => ?_, fun d z => ?_⟩
        · dsimp only at z
          split at z
          · rename_i xs' ho'
            rw [ho'] at o'
            obtain ⟨vs', hp', r'⟩ := o'
            exact ⟨vs', .of hp', r'.none_of (Option.map_eq_none_iff.mp (Option.some.inj z))⟩
          · cases z
        · dsimp only at z
          split at z
          · rename_i xs' ho'
            rw [ho'] at o'
            obtain ⟨vs', hp', r'⟩ := o'
            obtain ⟨d', e3, e4⟩ := Option.map_eq_some_iff.mp (Option.some.inj z)
            obtain ⟨w, ew, rw'⟩ := r'.get e3
            refine ⟨⟨vs', w, .of hp', ew⟩, fun y H2 hy => ?_⟩
            obtain ⟨T, x2, e5, hT, e6, e7⟩ := hy
            have := e7 vs' (.of hp')
            rw [ew] at this; cases this
            obtain ⟨x3, R3, r3⟩ := tup_new R' (.cons (d := .int i) (v := .int i) rfl (.cons rw' .nil)) hT
            rw [e5, e6, ← e4]
            exact ⟨x3, R3, r3⟩
          · cases z
      · cases z
    · cases z

/-! ### for -/
def loopR (it : Im) (t : Tm) (mb : Sm) : Nat → Nat → Ev → Gh → Ro
  | 0, i, env, G => (match it.at_ i G with
    | some none => .nx env G
    | _ => .no)
  | n + 1, i, env, G => (match it.at_ i G with
    | some none => .nx env G
    | some (some d) => (match t d G env with
      | some env1 => (match mb env1 G with
        | .nx e2 G2 => loopR it t mb n (i + 1) e2 G2
        | .ct e2 G2 => loopR it t mb n (i + 1) e2 G2
        | .bk e2 G2 => .nx e2 G2
        | r => r)
      | none => .no)
    | none => .no)
def sFor (mi : Ev → M Im) (t : Tm) (mb : Sm) : Sm := fun env G => exS (mi env G) env fun it G1 => loopR it t mb it.n 0 env G1
/-- the loop's turns, by the iterator -/
theorem loop_run {it : Im} {t : Tm} {ws : List Nat} {mb : Sm} {J : It} {D : Ends} {ρ0 : List Addr} {H0 : Hp} {σ : St} {env : Ev} {G : Gh} (Io : ItOk X.K g ρ0 H0 J it) (R : Rep X.K g ρ0 G H0) (E : RE X.K g ρ0 H0 env σ) (h : Ps X.K g W ρ0 H0 D (loopR it t mb it.n 0 env G)) :
    ∃ I : Nat → Nat → St → Hp → Prop, (∃ m, I 0 m σ H0) ∧ ∀ i m σ H, I i m σ H →
      (J.stop i H ∧ D.nx σ H) ∨ (J.go i H ∧ ∃ N : St → Hp → Prop, (∀ σ' H', N σ' H' → ∃ m', m' < m ∧ I (i + 1) m' σ' H') ∧ ∀ x H', J.yld i H x H' → tG X.K g t ws x σ H' fun σ2 H2 => tS X.K g W mb { D with nx := N, ct := N, bk := D.nx } σ2 H2) := by
  refine ⟨fun i m σ H => ∃ ρ env G, Ext ρ0 H0 ρ H ∧ Rep X.K g ρ G H ∧ RE X.K g ρ H env σ ∧ Ps X.K g W ρ H D (loopR it t mb m i env G), ⟨it.n, ρ0, env, G, .refl _ _, R, E, h⟩, ?_⟩
  rintro i m σ H ⟨ρ, env, G, x, R, E, h⟩
  obtain ⟨o1, o2⟩ := Io i ρ G H x R
  have stop : it.at_ i G = some none → Ps X.K g W ρ H D (.nx env G) → J.stop i H ∧ D.nx σ H := fun e h => ⟨o1 e, h.now R E⟩
  cases m with
  | zero =>
    rw [loopR] at h
    split at h
    · rename_i e
      exact .inl (stop e h)
    · exact h.elim
  | succ m =>
    rw [loopR] at h
    split at h
    · rename_i e
      exact .inl (stop e h)
    · rename_i d e
      split at h
      · rename_i env1 e1
        obtain ⟨go, step⟩ := o2 d e
        refine .inr ⟨go, fun σ' H' => ∃ ρ' env' G', Ext ρ0 H0 ρ' H' ∧ Rep X.K g ρ' G' H' ∧ RE X.K g ρ' H' env' σ' ∧ Ps X.K g W ρ' H' D (loopR it t mb m (i + 1) env' G'), fun σ' H' z => ⟨m, Nat.lt_succ_self m, z⟩, fun y H' hy => ?_⟩
        obtain ⟨x1, R1, r1⟩ := step y H' hy
        refine ⟨ρ, env, G, d, env1, R1, E.ext x1, r1, e1, fun σ2 E2 _ => ⟨ρ, env1, G, R1, E2, ?_⟩⟩
        have xx := x.trans x1
        have h := h.start x1
        cases z : mb env1 G with
        | nx e2 G2 =>
          rw [z] at h
          exact fun ρ3 H3 σ3 x3 R3 E3 => ⟨ρ3, e2, G2, xx.trans x3, R3, E3, h.start x3⟩
        | ct e2 G2 =>
          rw [z] at h
          exact fun ρ3 H3 σ3 x3 R3 E3 => ⟨ρ3, e2, G2, xx.trans x3, R3, E3, h.start x3⟩
        | bk e2 G2 => rw [z] at h; exact h
        | rt d G2 => rw [z] at h; exact h
        | er c e2 G2 => rw [z] at h; exact h
        | no => rw [z] at h; exact h
      · exact h.elim
    · exact h.elim
theorem fs_for {tg iter : Expr} {mi : Ev → M Im} {t : Tm} {ws : List Nat} (hp : PassesOwn (model X.prog X.w) X.A X.env X.xe) (hc : X.calm = true) (hi : FI X g W tg iter mi) (hg : FG X g tg t ws) (hb : FSs X g W body m)
    (hs : ∀ x, foldedSetIterable iter X.env x = pure x := by intro _; rfl) : FS X g W (.For tg iter body [] pos) (sFor mi t m) := by
  refine PS.imp (ps_for hp hc hi hg hb hs) ?_
  rintro D σ H ⟨ρ, env, G, R, E, h⟩
  exact ⟨ρ, env, G, R, E, (h.ex E).imp fun it G1 ρ1 H1 x1 R1 h1 J hJ => loop_run hJ R1 (E.ext x1) h1⟩
/-- for k in d: the dict is locked meanwhile -/
def keyV : Key → D
  | .inl i => .int i
  | .inr x => .str x
def unlR (l : Nat) : Ro → Ro := fun r => match r with
  | .nx env G => (match G.ob l with
    | .lk kvs => .nx env (G.set l (.dct kvs))
    | _ => .no)
  | .bk env G => (match G.ob l with
    | .lk kvs => .bk env (G.set l (.dct kvs))
    | _ => .no)
  | .ct env G => (match G.ob l with
    | .lk kvs => .ct env (G.set l (.dct kvs))
    | _ => .no)
  | .rt d G => (match G.ob l with
    | .lk kvs => .rt d (G.set l (.dct kvs))
    | _ => .no)
  | r => r
def sForK (j : Nat) (t : Tm) (mb : Sm) : Sm := fun env G => match env[j]? with
  | some (some (.ref l)) => (match G.ob l with
    | .dct kvs => unlR l (loopR ⟨kvs.length, fun i _ => some (kvs[i]?.map fun p => keyV p.1)⟩ t mb kvs.length 0 env (G.set l (.lk kvs)))
    | _ => .no)
  | _ => .no
theorem RM.get {K : PySem.W.Frag} {ρ : List Addr} {H : Hp} {κ κ' : Type} {f : κ → κ'} : ∀ {l : List (κ × D)} {ws : List (κ' × V)} {i : Nat} {p : κ × D}, RM K g ρ H f l ws → l[i]? = some p → ∃ v, ws[i]? = some (f p.1, v) ∧ RV K g ρ H p.2 v
  | [], _, _, _, _, e => by simp at e
  | (k, d) :: r, _, 0, _, h, e => by
    rw [RM] at h
    obtain ⟨v, q, z, h1, h2⟩ := h
    subst z
    simp at e; subst e
    exact ⟨v, rfl, h1⟩
  | (k, d) :: r, _, i + 1, _, h, e => by
    rw [RM] at h
    obtain ⟨v, q, z, h1, h2⟩ := h
    subst z
    obtain ⟨w, e1, r1⟩ := RM.get (i := i) h2 (by simpa using e)
    exact ⟨w, by simpa using e1, r1⟩
/-- the lock put on, taken off -/
theorem Rep.lock {K : PySem.W.Frag} {ρ : List Addr} {G : Gh} {H : Hp} {l : Nat} {d : Addr} {kvs : List (Key × D)} (R : Rep K g ρ G H) (q : ρ[l]? = some d) (ho : G.ob l = .dct kvs) :
    ∃ ws, H d = some (.dK ws) ∧ RM K g ρ H id kvs ws ∧ ∀ od, Rep K g ρ (G.set l (.lk kvs)) (upd H d (.frz od (.dK ws))) ∧ Ext ρ H ρ (upd H d (.frz od (.dK ws))) := by
  have o := R.obj _ _ q
  rw [ho] at o
  obtain ⟨ws, hp, rm, nd⟩ := o
  exact ⟨ws, hp, rm, fun od => R.write q (by rw [ho]; rfl) fun x => ⟨od, ws, upd_same, rm.ext x, nd⟩⟩
theorem Rep.unlock {K : PySem.W.Frag} {ρ : List Addr} {G : Gh} {H : Hp} {l : Nat} {d : Addr} {od : Obj} {ws : List (Key × V)} {kvs : List (Key × D)} (R : Rep K g ρ G H) (q : ρ[l]? = some d) (hd : H d = some (.frz od (.dK ws))) (ho : G.ob l = .lk kvs) :
    Rep K g ρ (G.set l (.dct kvs)) (upd H d (.dK ws)) ∧ ∀ (ρ0 : List Addr) (H0 : Hp) u, H0 d = some u → ¬ Imm u → Ext ρ0 (upd H0 d (.frz od (.dK ws))) ρ H → Ext ρ0 H0 ρ (upd H d (.dK ws)) := by
  have o := R.obj _ _ q
  rw [ho] at o
  obtain ⟨od', ws', hp, rm, nd⟩ := o
  rw [hd] at hp
  cases hp
  have kt : KeepT H (upd H d (.dK ws)) := fun a u e i => by
    have n : a ≠ d := fun z => by subst z; rw [hd] at e; cases e; exact i.elim
    rw [upd_ne n]; exact e
  refine ⟨⟨R.len, R.nd, fun j b z => ?_⟩, fun ρ0 H0 u hu nu x => ⟨x.pre, fun a w e i => ?_⟩⟩
  · show RO K g _ _ (if j = l then .dct kvs else G.ob j) b
    by_cases hj : j = l
    · subst hj
      rw [q] at z; cases z
      rw [if_pos rfl]
      exact ⟨ws, upd_same, rm.extT (fun _ _ z => z) kt, nd⟩
    · rw [if_neg hj]
      refine (R.obj j b z).extT (fun _ _ z => z) kt (upd_ne fun z2 => ?_)
      subst z2
      have h1 := (List.getElem?_eq_some_iff.mp q)
      have h2 := (List.getElem?_eq_some_iff.mp z)
      exact hj ((List.getElem_inj R.nd).mp (h2.2.trans h1.2.symm))
  · have n : a ≠ d := fun z => by subst z; rw [hu] at e; cases e; exact nu i
    rw [upd_ne n]
    exact x.keep a w (by rw [upd_ne n]; exact e) i
theorem fs_forK {tg : Expr} {x : Str} {t : Tm} {ws : List Nat} {j : Nat} (hp : PassesOwn (model X.prog X.w) X.A X.env X.xe) (hc : X.calm = true) (hN : X.N[j]? = some x) (hv : Vis X.env.scope x) (hg : FG X g tg t ws) (hb : FSs X g W body m) (hd : (x == ("__debug__" : Str)) = false := by decide) (hcd : (x == ("__classdict__" : Str)) = false := by decide)
    (hs : ∀ y, foldedSetIterable (.Name x p) X.env y = pure y := by intro _; rfl) : FS X g W (.For tg (.Name x p) body [] pos) (sForK j t m) := by
  refine PS.imp (ps_lock (ps_for hp hc (pi_keys (pe_var hN hv hd hcd)) hg hb hs)) ?_
  rintro D σ H ⟨ρ, env, G, R, E, h⟩
  unfold sForK at h
  split at h
  · rename_i l e1
    split at h
    · rename_i kvs ho
      obtain ⟨v, e2, rv⟩ := E.get e1
      rw [RV] at rv
      obtain ⟨d, q, ev⟩ := rv
      subst ev
      obtain ⟨wss, hd1, rm, lock⟩ := R.lock q ho
      refine ⟨d, _, hd1, trivial, fun od => ?_⟩
      obtain ⟨R1, x1⟩ := lock od
      refine ⟨_, e2, d, od, rfl, .inl ⟨wss, upd_same, ?_⟩⟩
      have fz : ∀ {ρ' : List Addr} {H' : Hp}, Ext ρ (upd H d (.frz od (.dK wss))) ρ' H' → H' d = some (.frz od (.dK wss)) := fun x => x.keep _ _ upd_same trivial
      have io : ItOk X.K g ρ (upd H d (.frz od (.dK wss))) (Itk d od wss) ⟨kvs.length, fun i _ => some (kvs[i]?.map fun p => keyV p.1)⟩ := by
        intro i ρ' G' H' x' R'
        have hd' := fz x'
        refine ⟨fun z => ⟨hd', ?_⟩, fun y z => ?_⟩
        · have z := Option.map_eq_none_iff.mp (Option.some.inj z)
          have l1 := List.getElem?_eq_none_iff.mp z
          have l2 := rm.len
          omega
        · obtain ⟨⟨kk, dd⟩, e3, e4⟩ := Option.map_eq_some_iff.mp (Option.some.inj z)
          obtain ⟨w, e5, _⟩ := RM.get rm e3
          refine ⟨⟨hd', (List.getElem?_eq_some_iff.mp e5).1⟩, fun y2 H2 hy => ?_⟩
          obtain ⟨e6, k', v', e7, e8⟩ := hy
          rw [e5] at e7; cases e7
          rw [e6, e8, ← e4]
          refine ⟨.refl _ _, R', ?_⟩
          cases kk <;> rfl
      refine loop_run io R1 (E.ext x1) ?_
      have un : ∀ {ρ' : List Addr} {H' : Hp} {G2 : Gh} {kvs' : List (Key × Mi.D)}, Ext ρ (upd H d (.frz od (.dK wss))) ρ' H' → Rep X.K g ρ' G2 H' → G2.ob l = .lk kvs' → Rep X.K g ρ' (G2.set l (.dct kvs')) (upd H' d (.dK wss)) ∧ Ext ρ H ρ' (upd H' d (.dK wss)) ∧ KeepT H' (upd H' d (.dK wss)) := fun {ρ' H' G2 kvs'} x2 R2 h2 => by
        obtain ⟨a1, a2⟩ := R2.unlock (x2.pre _ _ q) (fz x2) h2
        refine ⟨a1, a2 ρ H _ hd1 (fun z => z) x2, fun a u e i => ?_⟩
        have n : a ≠ d := fun z => by subst z; rw [fz x2] at e; cases e; exact i.elim
        rw [upd_ne n]; exact e
      revert h
      generalize loopR ⟨kvs.length, fun i _ => some (kvs[i]?.map fun p => keyV p.1)⟩ t m kvs.length 0 env (G.set l (.lk kvs)) = r
      intro h
      cases r with
      | nx env2 G2 =>
        unfold unlR at h
        dsimp only at h
        split at h
        · rename_i kvs' h2
          intro ρ' H' σ' x2 R2 E2
          obtain ⟨a1, a2, a3⟩ := un x2 R2 h2
          exact ⟨fz x2, h ρ' _ σ' a2 a1 (E2.extT (fun _ _ z => z) a3)⟩
        · exact h.elim
      | bk env2 G2 =>
        unfold unlR at h
        dsimp only at h
        split at h
        · rename_i kvs' h2
          intro ρ' H' σ' x2 R2 E2
          obtain ⟨a1, a2, a3⟩ := un x2 R2 h2
          exact ⟨fz x2, h ρ' _ σ' a2 a1 (E2.extT (fun _ _ z => z) a3)⟩
        · exact h.elim
      | ct env2 G2 =>
        unfold unlR at h
        dsimp only at h
        split at h
        · rename_i kvs' h2
          intro ρ' H' σ' x2 R2 E2
          obtain ⟨a1, a2, a3⟩ := un x2 R2 h2
          exact ⟨fz x2, h ρ' _ σ' a2 a1 (E2.extT (fun _ _ z => z) a3)⟩
        · exact h.elim
      | rt d2 G2 =>
        unfold unlR at h
        dsimp only at h
        split at h
        · rename_i kvs' h2
          intro ρ' H' v x2 R2 r2
          obtain ⟨a1, a2, a3⟩ := un x2 R2 h2
          exact ⟨fz x2, h ρ' _ v a2 a1 (r2.extT (fun _ _ z => z) a3)⟩
        · exact h.elim
      | er c env2 G2 => exact fun ρ' H' σ' x2 R2 E2 => h ρ' H' σ' (x1.trans x2) R2 E2
      | no => exact h.elim
    · exact h.elim
  · exact h.elim

/-! ### while -/
def loopW (nt : Ev → M Bool) (mb : Sm) : Nat → Ev → Gh → Ro
  | 0, _, _ => .no
  | n + 1, env, G => exS (nt env G) env fun b G1 => if b = true then (match mb env G1 with
    | .nx e2 G2 => loopW nt mb n e2 G2
    | .ct e2 G2 => loopW nt mb n e2 G2
    | .bk e2 G2 => .nx e2 G2
    | r => r) else .nx env G1
def sWhile (k : Nat) (nt : Ev → M Bool) (mb : Sm) : Sm := fun env G => loopW nt mb k env G
theorem fs_while {c : Expr} {nt : Ev → M Bool} (k : Nat) (hp : PassesOwn (model X.prog X.w) X.A X.env X.xe) (hc : FT X g W c nt) (hb : FSs X g W body m) : FS X g W (.While c body [] pos) (sWhile k nt m) := by
  refine PS.imp (ps_while hp hc hb) ?_
  rintro D σ H ⟨ρ, env, G, R, E, h⟩
  refine ⟨fun n σ H => ∃ ρ env G, Rep X.K g ρ G H ∧ RE X.K g ρ H env σ ∧ Ps X.K g W ρ H D (loopW nt m n env G), ⟨k, ρ, env, G, R, E, h⟩, ?_⟩
  rintro n σ H ⟨ρ, env, G, R, E, h⟩
  cases n with
  | zero => exact h.elim
  | succ n =>
    rw [loopW] at h
    refine tT_run R E (h.ex E) fun b G1 ρ1 H1 x1 R1 h1 => ?_
    cases b with
    | true =>
      rw [if_pos rfl] at h1 ⊢
      refine ⟨fun σ' H' => ∃ ρ' env' G', Rep X.K g ρ' G' H' ∧ RE X.K g ρ' H' env' σ' ∧ Ps X.K g W ρ' H' D (loopW nt m n env' G'), fun σ' H' z => ⟨n, Nat.lt_succ_self n, z⟩, ρ1, env, G1, R1, E.ext x1, ?_⟩
      cases z : m env G1 with
      | nx e2 G2 =>
        rw [z] at h1
        exact fun ρ3 H3 σ3 x3 R3 E3 => ⟨ρ3, e2, G2, R3, E3, h1.start x3⟩
      | ct e2 G2 =>
        rw [z] at h1
        exact fun ρ3 H3 σ3 x3 R3 E3 => ⟨ρ3, e2, G2, R3, E3, h1.start x3⟩
      | bk e2 G2 => rw [z] at h1; exact h1
      | rt d G2 => rw [z] at h1; exact h1
      | er c e2 G2 => rw [z] at h1; exact h1
      | no => rw [z] at h1; exact h1
    | false =>
      rw [if_neg Bool.false_ne_true] at h1 ⊢
      exact h1.now R1 (E.ext x1)

/-! ### comprehensions -/
def wipeE (env : Ev) : List Nat → Ev
  | [] => env
  | v :: vs => (wipeE env vs).set v none
theorem RE.wipe {K : PySem.W.Frag} {ρ : List Addr} {H : Hp} {env : Ev} {σ : St} (h : RE K g ρ H env σ) : ∀ vs, RE K g ρ H (wipeE env vs) (L2.wipe σ vs)
  | [] => h
  | v :: vs => RE.unset v none (RE.wipe h vs)
theorem wipe_get (σ : St) : ∀ (vs : List Nat) (j : Nat), (L2.wipe σ vs)[j]? = if j ∈ vs then σ[j]?.map fun _ => none else σ[j]?
  | [], j => by rw [if_neg (by simp)]; rfl
  | v :: vs, j => by
    show ((L2.wipe σ vs).set v none)[j]? = _
    by_cases hv : v = j
    · subst hv
      rw [if_pos List.mem_cons_self]
      by_cases hl : v < (L2.wipe σ vs).length
      · rw [List.getElem?_set_self hl]
        rw [wipe_length] at hl
        rw [List.getElem?_eq_getElem hl]
        rfl
      · rw [List.getElem?_eq_none (by rw [List.length_set]; exact Nat.le_of_not_lt hl)]
        rw [wipe_length] at hl
        rw [List.getElem?_eq_none (Nat.le_of_not_lt hl)]
        rfl
    · rw [List.getElem?_set_ne hv, wipe_get σ vs j]
      by_cases hj : j ∈ vs
      · rw [if_pos hj, if_pos (List.mem_cons_of_mem _ hj)]
      · rw [if_neg hj, if_neg (fun z => (List.mem_cons.mp z).elim (fun e => hv e.symm) hj)]
theorem But.wipe {σ σ2 : St} {vs : List Nat} (b : But vs (L2.wipe σ vs) σ2) : L2.wipe σ2 vs = L2.wipe σ vs := by
  apply List.ext_getElem?
  intro j
  rw [wipe_get σ2, wipe_get σ]
  by_cases hj : j ∈ vs
  · rw [if_pos hj, if_pos hj]
    have l : σ2.length = σ.length := b.len.trans (wipe_length σ vs)
    by_cases hl : j < σ.length
    · rw [List.getElem?_eq_getElem hl, List.getElem?_eq_getElem (by rw [l]; exact hl)]
      rfl
    · rw [List.getElem?_eq_none (Nat.le_of_not_lt hl), List.getElem?_eq_none (by rw [l]; exact Nat.le_of_not_lt hl)]
  · rw [if_neg hj, if_neg hj, b.out j hj, wipe_get, if_neg hj]
def loopC (it : Im) (t : Tm) (nt : Ev → M Bool) (me : Ev → M D) (l : Nat) (env0 : Ev) : Nat → Nat → Gh → Rs D
  | 0, i, G => (match it.at_ i G with
    | some none => .ok (.ref l) G
    | _ => .no)
  | n + 1, i, G => (match it.at_ i G with
    | some none => .ok (.ref l) G
    | some (some d) => (match t d G env0 with
      | some env1 => (match nt env1 G with
        | .ok true G2 => (match me env1 G2 with
          | .ok y G3 => (match G3.ob l with
            | .lst acc => if acc.length < sizeLine then loopC it t nt me l env0 n (i + 1) (G3.set l (.lst (acc ++ [y]))) else .no
            | _ => .no)
          | _ => .no)
        | .ok false G2 => loopC it t nt me l env0 n (i + 1) G2
        | _ => .no)
      | none => .no)
    | none => .no)
def eLc (mi : Ev → M Im) (t : Tm) (nt : Ev → M Bool) (me : Ev → M D) (vs : List Nat) : Ev → M D := fun env G => (mi env G).bind fun it G1 => loopC it t nt me G1.n (wipeE env vs) it.n 0 (G1.push (.lst []))
def bYes : Ev → M Bool := fun _ G => .ok true G
abbrev WF : WX := fun _ _ _ _ => False
theorem lc_run {mi : Ev → M Im} {t : Tm} {nt : Ev → M Bool} {me : Ev → M D} {vs : List Nat} {σ : St} {H : Hp} {Q : VK} (h : tE X.K g W (eLc mi t nt me vs) σ H Q) :
    tLc (tI X.K g W mi) (tG X.K g t vs) (tT X.K g WF nt) (tE X.K g WF me) vs σ H Q := by
  obtain ⟨ρ, env, G, R, E, h⟩ := h
  refine ⟨ρ, env, G, R, E, h.bind.imp fun it G1 ρ1 H1 x1 R1 h1 J hJ A0 hA => ?_⟩
  obtain ⟨x2, R2, r2⟩ := lst_new R1 (ds := []) (vs := []) .nil hA
  rw [RV] at r2
  obtain ⟨p, q2, ep⟩ := r2
  cases ep
  refine ⟨fun i m H => ∃ ρ G, Ext (ρ1 ++ [A0]) (upd H1 A0 (.lst [])) ρ H ∧ Rep X.K g ρ G H ∧ Po X.K g W σ ρ H (loopC it t nt me G1.n (wipeE env vs) m i G) fun d _ ρ' H' => ∀ v, RV X.K g ρ' H' d v → Q v H', ⟨it.n, _, _, .refl _ _, R2, h1.start x2⟩, ?_⟩
  rintro i m H ⟨ρ, G, x, R, h⟩
  have xx := (x1.trans x2).trans x
  have qD : ρ[G1.n]? = some A0 := x.pre _ _ q2
  obtain ⟨o1, o2⟩ := hJ i ρ G H (x2.trans x) R
  have stop : it.at_ i G = some none → (Po X.K g W σ ρ H (Rs.ok (D.ref G1.n) G : Rs D) fun d _ ρ' H' => ∀ v, RV X.K g ρ' H' d v → Q v H') → J.stop i H ∧ Q (.ref A0) H := fun e h => ⟨o1 e, h.now R _ (by rw [RV]; exact ⟨A0, qD, rfl⟩)⟩
  cases m with
  | zero =>
    rw [loopC] at h
    split at h
    · rename_i e
      exact .inl (stop e h)
    · exact h.elim
  | succ m =>
    rw [loopC] at h
    split at h
    · rename_i e
      exact .inl (stop e h)
    · rename_i d e
      split at h
      · rename_i env1 e1
        obtain ⟨go, step⟩ := o2 d e
        refine .inr ⟨go, fun H' => ∃ ρ' G', Ext (ρ1 ++ [A0]) (upd H1 A0 (.lst [])) ρ' H' ∧ Rep X.K g ρ' G' H' ∧ Po X.K g W σ ρ' H' (loopC it t nt me G1.n (wipeE env vs) m (i + 1) G') fun d _ ρ' H' => ∀ v, RV X.K g ρ' H' d v → Q v H', fun H' z => ⟨m, Nat.lt_succ_self m, z⟩, fun y H' hy => ?_⟩
        obtain ⟨x3, R3, r3⟩ := step y H' hy
        have x3' := x.trans x3
        refine ⟨ρ, _, G, d, env1, R3, (E.ext (xx.trans x3)).wipe vs, r3, e1, fun σ2 E2 b2 => ⟨b2.wipe, ρ, env1, G, R3, E2, ?_⟩⟩
        have h := h.start x3
        cases z : nt env1 G with
        | no => rw [z] at h; exact h.elim
        | er c G2 => rw [z] at h; exact h.elim
        | ok b G2 =>
          rw [z] at h
          intro ρ4 H4 x4 R4
          have h := h.start x4
          cases b with
          | false =>
            show if false = true then _ else _
            rw [if_neg Bool.false_ne_true]
            exact ⟨ρ4, G2, x3'.trans x4, R4, h⟩
          | true =>
            show if true = true then _ else _
            rw [if_pos rfl]
            refine ⟨ρ4, env1, G2, R4, E2.ext x4, ?_⟩
            dsimp only at h
            cases z5 : me env1 G2 with
            | no => rw [z5] at h; exact h.elim
            | er c G3 => rw [z5] at h; exact h.elim
            | ok y5 G3 =>
              rw [z5] at h
              intro ρ5 H5 x5 R5 v5 r5
              have h := h.start x5
              dsimp only at h
              split at h
              · rename_i acc ha
                split at h
                · rename_i hz
                  have x35 := (x3'.trans x4).trans x5
                  have qD5 : ρ5[G1.n]? = some A0 := x35.pre _ _ q2
                  have o := R5.obj _ _ qD5
                  rw [ha] at o
                  obtain ⟨avs, hp, ra⟩ := o
                  obtain ⟨R6, x6⟩ := R5.write (o := .lst (avs ++ [v5])) (ob := .lst (acc ++ [y5])) qD5 (by rw [ha]; rfl) fun x => ⟨_, upd_same, (ra.app (.cons r5 .nil)).ext x⟩
                  exact ⟨avs, hp, by rw [ra.len]; exact hz, ρ5, _, x35.trans x6, R6, h.start x6⟩
                · exact h.elim
              · exact h.elim
      · exact h.elim
    · exact h.elim
/-- a clause's tests -/
abbrev FTs (X : Cx) (g : Tg) (ifs : List Expr) (nt : Ev → M Bool) : Prop := PTs X ifs (tT X.K g WF nt)
theorem PTs.imp {ifs : List Expr} {t t' : TT} (h : PTs X ifs t) (k : ∀ σ H Q, t' σ H Q → t σ H Q) : PTs X ifs t' := ⟨fun pins s σ H Q I q => h.run pins s σ H Q I (k σ H Q q)⟩
theorem fts_nil : FTs X g [] bYes := PTs.imp pts_nil fun σ H Q ⟨ρ, env, G, R, E, h⟩ => h.now R
theorem fts_one {c : Expr} {nt : Ev → M Bool} (h : FT X g WF c nt) : FTs X g [c] nt := pts_one h
theorem fe_lc {elt tg iter : Expr} {ifs : List Expr} {scope : Scope} {own : List (Str × Nat)} {mi : Ev → M Im} {t : Tm} {nt : Ev → M Bool} {me : Ev → M D} (hc : X.calm = true) (hN : X.N.Nodup) (ok : BlkOk X.N X.env.scope scope own) (hi : FI X g W tg iter mi)
    (hg : ∀ (s : Shared) (H : Hp) (C : Addr) (cl : List (Str × Addr)) (fp : List Addr), FG (X.blk s H scope (compEnvC scope cl C X.env) fp) g tg t (own.map (·.2)))
    (ht : ∀ (s : Shared) (H : Hp) (C : Addr) (cl : List (Str × Addr)) (fp : List Addr), FTs (X.blk s H scope (compEnvC scope cl C X.env) fp) g ifs nt)
    (he : ∀ (s : Shared) (H : Hp) (C : Addr) (cl : List (Str × Addr)) (fp : List Addr), FE (X.blk s H scope (compEnvC scope cl C X.env) fp) g WF elt me) (hs : ∀ x, foldedSetIterable iter X.env x = pure x := by intro _; rfl) :
    FE X g W (.ListComp elt [⟨tg, iter, ifs, 0⟩] scope pos) (eLc mi t nt me (own.map (·.2))) := PE.imp (pe_lc (g := tG X.K g t (own.map (·.2))) (tt := tT X.K g WF nt) (te := tE X.K g WF me) hc hN hi ok hg ht he hs) fun _ _ _ h => lc_run h
theorem fs_setLc {i : Nat} {y : Str} {py : Pos} {elt tg iter : Expr} {ifs : List Expr} {scope : Scope} {own : List (Str × Nat)} {mi : Ev → M Im} {t : Tm} {nt : Ev → M Bool} {me : Ev → M D} (hc : X.calm = true) (hN : X.N.Nodup) (hy : X.N[i]? = some y) (hyl : X.env.scope.names.lookup y = some .local)
    (hsw : swapsWith (.ListComp elt [⟨tg, iter, ifs, 0⟩] scope pos) (some (.Name y py)) pos'.line X.env = pure true) (ok : BlkOk X.N X.env.scope scope own) (hi : FI X g W tg iter mi)
    (hg : ∀ (s : Shared) (H : Hp) (C : Addr) (cl : List (Str × Addr)) (fp : List Addr), FG (X.blk s H scope (compEnvC scope cl C X.env) fp) g tg t (own.map (·.2)))
    (ht : ∀ (s : Shared) (H : Hp) (C : Addr) (cl : List (Str × Addr)) (fp : List Addr), FTs (X.blk s H scope (compEnvC scope cl C X.env) fp) g ifs nt)
    (he : ∀ (s : Shared) (H : Hp) (C : Addr) (cl : List (Str × Addr)) (fp : List Addr), FE (X.blk s H scope (compEnvC scope cl C X.env) fp) g WF elt me) (hs : ∀ x, foldedSetIterable iter X.env x = pure x := by intro _; rfl) :
    FS X g W (.Assign [.Name y py] (.ListComp elt [⟨tg, iter, ifs, 0⟩] scope pos) pos') (sAsg (gmN i) (eLc mi t nt me (own.map (·.2)))) := by
  refine PS.imp (ps_setLc (g := tG X.K g t (own.map (·.2))) (tt := tT X.K g WF nt) (te := tE X.K g WF me) hc hN hy hyl hsw hi ok hg ht he hs) ?_
  rintro D σ H ⟨ρ, env, G, R, E, h⟩
  exact lc_run ⟨ρ, env, G, R, E, (h.ex E).imp fun d G1 ρ1 H1 x1 R1 h1 v r => h1.now R1 (RE.set r i (E.ext x1))⟩
end
end Mi
/-! F, part 7: built-ins. -/
namespace Mi
open PySem PySem.Spec PyProof.Rows L2

/-- a call by values -/
abbrev O1 := List D → Gh → Option (D × Gh)
def rC (K : PySem.W.Frag) (g : Tg) (f : O1) : List V → Hp → VK → Prop := fun vs H Q => ∃ ρ G ds, Rep K g ρ G H ∧ RVs K g ρ H ds vs ∧ ∃ d G', f ds G = some (d, G') ∧ ∀ v ρ' H', Ext ρ H ρ' H' → Rep K g ρ' G' H' → RV K g ρ' H' d v → Q v H'
def eB (f : O1) (n : Ev → M (List D)) : Ev → M D := fun env G => (n env G).bind fun ds G1 => lift (f ds G1)
abbrev CalF (X : Cx) (g : Tg) (u : Value) (f : O1) : Prop := CallR X u (rC X.K g f)
theorem CallR.imp {X : Cx} {f : Value} {r r' : List V → Hp → VK → Prop} (h : CallR X f r) (k : ∀ x H Q, r' x H Q → r x H Q) : CallR X f r' := fun pins s σ H xs us Q I rx q => h pins s σ H xs us Q I rx (k xs H Q q)
theorem CallR.or {X : Cx} {f : Value} {r r' : List V → Hp → VK → Prop} (h : CallR X f r) (h' : CallR X f r') : CallR X f fun x H Q => r x H Q ∨ r' x H Q := fun pins s σ H xs us Q I rx q => q.elim (h pins s σ H xs us Q I rx) (h' pins s σ H xs us Q I rx)
section
variable {X : Cx} {g : Tg} {W : WX} {pos tpos p p2 apos cpos : Pos} {a b e o : Expr} {es : List Expr} {ma mb mo : Ev → M D} {ms : Ev → M (List D)} {x : Str} {idn T : String} {f : O1}
theorem blt_run {σ : St} {H : Hp} {Q : VK} (h : tE X.K g W (eB f ms) σ H Q) : tCB (rC X.K g f) (tA X.K g W ms) σ H Q := by
  obtain ⟨ρ, env, G, R, E, h⟩ := h
  refine tA_run R E h.bind fun ds G1 ρ1 H1 x1 R1 h1 vs r1 => ?_
  obtain ⟨d, G', e, k⟩ := h1.lift
  exact ⟨ρ1, G1, ds, R1, r1, d, G', e, fun v ρ' H' x' R' r' => k ρ' H' x' R' v r'⟩
theorem fe_blt (hc : CalF X g (.builtin idn) f) (hg : Gl X x) (hm : X.mg x = none) (hv : bootBuiltins x = some (.builtin idn)) (ha : FA X g W (e :: es) ms) (hn : x ≠ "__name__" := by decide) (hd : (x == ("__debug__" : Str)) = false := by decide)
    (q1 : starEach (e :: es) X.env = (false, eval e X.env) :: starEach es X.env := by rfl) (q2 : (backTo pos (starEach es X.env)).any (·.1) = false := by rfl) : FE X g W (.Call (.Name x p) (e :: es) [] pos) (eB f ms) :=
  PE.imp (pe_callB hc hg hm hv ha hn hd q1 q2) fun _ _ _ h => blt_run h
theorem fe_bty (hc : CalF X g (.type T) f) (hg : Gl X x) (hm : X.mg x = none) (hv : bootBuiltins x = some (.type T)) (ha : FA X g W (e :: es) ms) (hn : x ≠ "__name__" := by decide) (hd : (x == ("__debug__" : Str)) = false := by decide)
    (q1 : starEach (e :: es) X.env = (false, eval e X.env) :: starEach es X.env := by rfl) (q2 : (backTo pos (starEach es X.env)).any (·.1) = false := by rfl) : FE X g W (.Call (.Name x p) (e :: es) [] pos) (eB f ms) :=
  PE.imp (pe_callTy hc hg hm hv ha hn hd q1 q2) fun _ _ _ h => blt_run h

/-! ### len -/
def lenD (d : D) (G : Gh) : Option Nat := match d with
  | .str y => if y.length ≤ sizeLine then some y.length else none
  | .tup xs => some xs.length
  | .rol xs => some xs.length
  | .ref l => (match G.ob l with
    | .lst xs => some xs.length
    | .dct kvs => some kvs.length
    | _ => none)
  | _ => none
def bLen : O1 := fun ds G => match ds with
  | [d] => (lenD d G).map fun n => (.int (n : Int), G)
  | _ => none
theorem cf_len : CalF X g (.builtin "len") bLen := by
  refine CallR.imp (CallR.or call_len call_lenD) ?_
  rintro vs H Q ⟨ρ, G, ds, R, r, d', G', e, k⟩
  unfold bLen at e
  split at e
  · rename_i d
    obtain ⟨n, e1, e2⟩ := Option.map_eq_some_iff.mp e
    cases e2
    obtain ⟨v, rfl, rv⟩ := r.one
    have k := k _ ρ H (.refl _ _) R rfl
    unfold lenD at e1
    split at e1
    · cases (show v = .str _ from rv)
      split at e1
      · cases e1
        exact .inl ⟨_, _, rfl, ⟨by assumption, rfl⟩, k⟩
      · cases e1
    · cases e1
      rw [RV] at rv
      obtain ⟨a, vs, e, s, q⟩ := rv
      subst e
      exact .inl ⟨_, _, rfl, .inr ⟨vs, s, q.len.symm⟩, k⟩
    · cases e1
      rw [RV] at rv
      obtain ⟨a, vs, e, s, q⟩ := rv
      subst e
      exact .inl ⟨_, _, rfl, .inl ⟨vs, s.seq, q.len.symm⟩, k⟩
    · rw [RV] at rv
      obtain ⟨a, e, q⟩ := rv
      subst q
      have o := R.obj _ _ e
      split at e1
      · rename_i xs z
        cases e1
        rw [z] at o
        obtain ⟨vs, hp, q⟩ := o
        exact .inl ⟨_, _, rfl, .inl ⟨vs, .of hp, q.len.symm⟩, k⟩
      · rename_i kvs z
        cases e1
        rw [z] at o
        obtain ⟨ws, hp, q, _⟩ := o
        exact .inr ⟨_, ws, rfl, hp, by rw [q.len]; exact k⟩
      · cases e1
    · cases e1
  · cases e
/-! ### int, str, min, max -/
def bInt : O1 := fun ds G => match ds with
  | [.int i] => some (.int i, G)
  | [.bl b] => some (.int (if b then 1 else 0), G)
  | [.str a] => if a.length ≤ 640 then (PySem.intText? a).map fun n => (.int n, G) else none
  | _ => none
theorem cf_int : CalF X g (.type "int") bInt := by
  refine CallR.imp (CallR.or call_int1 call_int_str) ?_
  rintro vs H Q ⟨ρ, G, ds, R, r, d', G', e, k⟩
  unfold bInt at e
  split at e
  · cases e
    obtain ⟨v, rfl, rv⟩ := r.one
    cases (show v = .int _ from rv)
    exact .inl (.inl ⟨_, rfl, k _ ρ H (.refl _ _) R rfl⟩)
  · cases e
    obtain ⟨v, rfl, rv⟩ := r.one
    cases (show v = .bl _ from rv)
    exact .inl (.inr ⟨_, rfl, k _ ρ H (.refl _ _) R rfl⟩)
  · split at e
    · obtain ⟨n, e1, e2⟩ := Option.map_eq_some_iff.mp e
      cases e2
      obtain ⟨v, rfl, rv⟩ := r.one
      cases (show v = .str _ from rv)
      exact .inr ⟨_, _, rfl, e1, by assumption, k _ ρ H (.refl _ _) R rfl⟩
    · cases e
  · cases e
def bStr : O1 := fun ds G => match ds with
  | [.int i] => if i.natAbs.log2 < 1920 then some (.str (toString i), G) else none
  | [.str a] => some (.str a, G)
  | _ => none
theorem cf_str : CalF X g (.type "str") bStr := by
  refine CallR.imp (CallR.or call_str_int SkE.call_str_str) ?_
  rintro vs H Q ⟨ρ, G, ds, R, r, d', G', e, k⟩
  unfold bStr at e
  split at e
  · split at e
    · cases e
      obtain ⟨v, rfl, rv⟩ := r.one
      cases (show v = .int _ from rv)
      exact .inl ⟨_, rfl, by assumption, k _ ρ H (.refl _ _) R rfl⟩
    · cases e
  · cases e
    obtain ⟨v, rfl, rv⟩ := r.one
    cases (show v = .str _ from rv)
    exact .inr ⟨_, rfl, k _ ρ H (.refl _ _) R rfl⟩
  · cases e
def bMin : O1 := fun ds G => match ds with
  | [.int i, .int j] => some (.int (if j < i then j else i), G)
  | _ => none
def bMax : O1 := fun ds G => match ds with
  | [.int i, .int j] => some (.int (if j > i then j else i), G)
  | _ => none
theorem cf_min (hc : X.calm = true) : CalF X g (.builtin "min") bMin := by
  refine CallR.imp (call_min2 hc) ?_
  rintro vs H Q ⟨ρ, G, ds, R, r, d', G', e, k⟩
  unfold bMin at e
  split at e
  · cases e
    obtain ⟨v, w, rfl, rv, rw'⟩ := r.two
    cases (show v = .int _ from rv)
    cases (show w = .int _ from rw')
    exact ⟨_, _, rfl, k _ ρ H (.refl _ _) R rfl⟩
  · cases e
theorem cf_max (hc : X.calm = true) : CalF X g (.builtin "max") bMax := by
  refine CallR.imp (call_max2 hc) ?_
  rintro vs H Q ⟨ρ, G, ds, R, r, d', G', e, k⟩
  unfold bMax at e
  split at e
  · cases e
    obtain ⟨v, w, rfl, rv, rw'⟩ := r.two
    cases (show v = .int _ from rv)
    cases (show w = .int _ from rw')
    exact ⟨_, _, rfl, k _ ρ H (.refl _ _) R rfl⟩
  · cases e
/-! ### list, tuple -/
/-- the items of a sequence -/
def itemsD (d : D) (G : Gh) : Option (List D) := match d with
  | .tup xs => some xs
  | .rol xs => some xs
  | .ref l => (match G.ob l with
    | .lst xs => some xs
    | _ => none)
  | _ => none
theorem items_of {K : PySem.W.Frag} {ρ : List Addr} {G : Gh} {H : Hp} {d : D} {v : V} {xs : List D} (R : Rep K g ρ G H) (r : RV K g ρ H d v) (e : itemsD d G = some xs) : ∃ a vs, v = .ref a ∧ RVs K g ρ H xs vs ∧ (SqL K H a vs ∨ SqT K H a vs) := by
  unfold itemsD at e
  split at e
  · cases e
    rw [RV] at r
    obtain ⟨a, vs, e, s, q⟩ := r
    exact ⟨a, vs, e, q, .inr s⟩
  · cases e
    rw [RV] at r
    obtain ⟨a, vs, e, s, q⟩ := r
    exact ⟨a, vs, e, q, .inl s.seq⟩
  · rw [RV] at r
    obtain ⟨a, e1, q⟩ := r
    have o := R.obj _ _ e1
    split at e
    · rename_i xs z
      cases e
      rw [z] at o
      obtain ⟨vs, hp, q2⟩ := o
      exact ⟨a, vs, q, q2, .inl (.of hp)⟩
    · cases e
  · cases e
def bList : O1 := fun ds G => match ds with
  | [d] => (itemsD d G).map fun xs => (.ref G.n, G.push (.lst xs))
  | _ => none
theorem cf_list : CalF X g (.type "list") bList := by
  refine CallR.imp call_list_of ?_
  rintro vs H Q ⟨ρ, G, ds, R, r, d', G', e, k⟩
  unfold bList at e
  split at e
  · obtain ⟨xs, e1, e2⟩ := Option.map_eq_some_iff.mp e
    cases e2
    obtain ⟨v, rfl, rv⟩ := r.one
    obtain ⟨a, ws, rfl, q, s⟩ := items_of R rv e1
    refine ⟨a, ws, rfl, s, fun l hl => ?_⟩
    obtain ⟨x2, R2, r2⟩ := lst_new R q hl
    exact k _ _ _ x2 R2 r2
  · cases e
def bTuple : O1 := fun ds G => match ds with
  | [d] => (itemsD d G).map fun xs => (.tup xs, G)
  | _ => none
theorem cf_tuple : CalF X g (.type "tuple") bTuple := by
  refine CallR.imp call_tuple_of ?_
  rintro vs H Q ⟨ρ, G, ds, R, r, d', G', e, k⟩
  unfold bTuple at e
  split at e
  · obtain ⟨xs, e1, e2⟩ := Option.map_eq_some_iff.mp e
    cases e2
    obtain ⟨v, rfl, rv⟩ := r.one
    obtain ⟨a, ws, rfl, q, s⟩ := items_of R rv e1
    refine ⟨a, ws, rfl, ?_⟩
    rcases s with s | s
    · refine .inl ⟨s, fun l hl => ?_⟩
      obtain ⟨x2, R2, r2⟩ := tup_new R q hl
      exact k _ _ _ x2 R2 r2
    · exact .inr ⟨s, k _ _ _ (.refl _ _) R (by rw [RV]; exact ⟨a, ws, rfl, s, q⟩)⟩
  · cases e
/-! ### sum, all, any of a list -/
def intsD : List D → Option (List Int)
  | [] => some []
  | .int i :: r => (intsD r).map fun l => i :: l
  | _ => none
def blsD : List D → Option (List Bool)
  | [] => some []
  | .bl i :: r => (blsD r).map fun l => i :: l
  | _ => none
theorem ints_of {K : PySem.W.Frag} {ρ : List Addr} {H : Hp} : ∀ {ds : List D} {vs : List V} {l : List Int}, RVs K g ρ H ds vs → intsD ds = some l → vs = l.map V.int
  | [], vs, l, r, e => by cases e; rw [RVs] at r; exact r
  | d :: ds, vs, l, r, e => by
    rw [RVs] at r
    obtain ⟨v, q, e1, r1, r2⟩ := r
    cases d with
    | int i =>
      obtain ⟨l', e2, e3⟩ := Option.map_eq_some_iff.mp e
      subst e3
      cases (show v = .int i from r1)
      rw [e1, ints_of r2 e2]
      rfl
    | _ => cases e
theorem bls_of {K : PySem.W.Frag} {ρ : List Addr} {H : Hp} : ∀ {ds : List D} {vs : List V} {l : List Bool}, RVs K g ρ H ds vs → blsD ds = some l → vs = l.map V.bl
  | [], vs, l, r, e => by cases e; rw [RVs] at r; exact r
  | d :: ds, vs, l, r, e => by
    rw [RVs] at r
    obtain ⟨v, q, e1, r1, r2⟩ := r
    cases d with
    | bl i =>
      obtain ⟨l', e2, e3⟩ := Option.map_eq_some_iff.mp e
      subst e3
      cases (show v = .bl i from r1)
      rw [e1, bls_of r2 e2]
      rfl
    | _ => cases e
/-- the items of a list -/
def lstD (d : D) (G : Gh) : Option (List D) := match d with
  | .ref l => (match G.ob l with
    | .lst xs => some xs
    | _ => none)
  | .rol xs => some xs
  | _ => none
theorem lst_of {K : PySem.W.Frag} {ρ : List Addr} {G : Gh} {H : Hp} {d : D} {v : V} {xs : List D} (R : Rep K g ρ G H) (r : RV K g ρ H d v) (e : lstD d G = some xs) : ∃ a vs, v = .ref a ∧ RVs K g ρ H xs vs ∧ SqL K H a vs := by
  unfold lstD at e
  split at e
  · rw [RV] at r
    obtain ⟨a, e1, q⟩ := r
    have o := R.obj _ _ e1
    split at e
    · rename_i xs z
      cases e
      rw [z] at o
      obtain ⟨vs, hp, q2⟩ := o
      exact ⟨a, vs, q, q2, .of hp⟩
    · cases e
  · cases e
    rw [RV] at r
    obtain ⟨a, vs, e, s, q⟩ := r
    exact ⟨a, vs, e, q, s.seq⟩
  · cases e
def bSum : O1 := fun ds G => match ds with
  | [d] => ((lstD d G).bind intsD).map fun l => (.int l.sum, G)
  | _ => none
def bAll : O1 := fun ds G => match ds with
  | [d] => ((lstD d G).bind blsD).map fun l => (.bl (l.all id), G)
  | _ => none
def bAny : O1 := fun ds G => match ds with
  | [d] => ((lstD d G).bind blsD).map fun l => (.bl (l.any id), G)
  | _ => none
theorem cf_sum (hc : X.calm = true) : CalF X g (.builtin "sum") bSum := by
  refine CallR.imp (cr_sum hc) ?_
  rintro vs H Q ⟨ρ, G, ds, R, r, d', G', e, k⟩
  unfold bSum at e
  split at e
  · obtain ⟨l, e1, e2⟩ := Option.map_eq_some_iff.mp e
    cases e2
    obtain ⟨xs, e3, e4⟩ := Option.bind_eq_some_iff.mp e1
    obtain ⟨v, rfl, rv⟩ := r.one
    obtain ⟨a, ws, rfl, q, s⟩ := lst_of R rv e3
    rw [ints_of q e4] at s
    exact ⟨a, l, rfl, s, k _ ρ H (.refl _ _) R rfl⟩
  · cases e
theorem cf_all (hc : X.calm = true) : CalF X g (.builtin "all") bAll := by
  refine CallR.imp (cr_all hc) ?_
  rintro vs H Q ⟨ρ, G, ds, R, r, d', G', e, k⟩
  unfold bAll at e
  split at e
  · obtain ⟨l, e1, e2⟩ := Option.map_eq_some_iff.mp e
    cases e2
    obtain ⟨xs, e3, e4⟩ := Option.bind_eq_some_iff.mp e1
    obtain ⟨v, rfl, rv⟩ := r.one
    obtain ⟨a, ws, rfl, q, s⟩ := lst_of R rv e3
    rw [bls_of q e4] at s
    exact ⟨a, l, rfl, s, k _ ρ H (.refl _ _) R rfl⟩
  · cases e
theorem cf_any (hc : X.calm = true) : CalF X g (.builtin "any") bAny := by
  refine CallR.imp (cr_any hc) ?_
  rintro vs H Q ⟨ρ, G, ds, R, r, d', G', e, k⟩
  unfold bAny at e
  split at e
  · obtain ⟨l, e1, e2⟩ := Option.map_eq_some_iff.mp e
    cases e2
    obtain ⟨xs, e3, e4⟩ := Option.bind_eq_some_iff.mp e1
    obtain ⟨v, rfl, rv⟩ := r.one
    obtain ⟨a, ws, rfl, q, s⟩ := lst_of R rv e3
    rw [bls_of q e4] at s
    exact ⟨a, l, rfl, s, k _ ρ H (.refl _ _) R rfl⟩
  · cases e
/-! ### isinstance: the built-in types by numbers -/
def tyNm : Nat → String
  | 0 => "NoneType"
  | 1 => "bool"
  | 2 => "int"
  | 3 => "str"
  | 4 => "tuple"
  | 5 => "list"
  | _ => "dict"
def tyD (d : D) (G : Gh) : Option Nat := match d with
  | .non => some 0
  | .bl _ => some 1
  | .int _ => some 2
  | .str _ => some 3
  | .tup _ => some 4
  | .rol _ => some 5
  | .ref l => (match G.ob l with
    | .lst _ => some 5
    | .dct _ => some 6
    | _ => none)
  | _ => none
def isTy (a b : Nat) : Bool := a == b || (a == 1 && b == 2)
theorem isTy_ok : ∀ a, a < 7 → ∀ b, b < 7 → 0 < b → kitB (tyNm a) (tyNm b) = some (isTy a b) := by decide +kernel
theorem tyD_of {K : PySem.W.Frag} {ρ : List Addr} {G : Gh} {H : Hp} {d : D} {v : V} {n : Nat} (R : Rep K g ρ G H) (r : RV K g ρ H d v) (e : tyD d G = some n) : n < 7 ∧ TyX K H v (.type (tyNm n)) := by
  have tp : ∀ {a : Addr} {vs : List V}, SqT K H a vs → TyX K H (.ref a) (.type "tuple") := fun {a vs} s => by
    rcases s with (s | ⟨o, s⟩) | ⟨o, its, n, s, c, _⟩
    · exact .base (.tup s)
    · exact .fTuple s
    · exact .kTuple s c
  have tl : ∀ {a : Addr} {vs : List V}, SqL K H a vs → TyX K H (.ref a) (.type "list") := fun {a vs} s => by
    rcases s with (s | ⟨o, s⟩) | ⟨o, its, n, s, c, _⟩
    · exact .base (.lst s)
    · exact .base (.frz s)
    · exact .kList s c
  unfold tyD at e
  split at e
  · cases e; cases (show v = .non from r); exact ⟨by decide, .base .non⟩
  · cases e; cases (show v = .bl _ from r); exact ⟨by decide, .base (.bl _)⟩
  · cases e; cases (show v = .int _ from r); exact ⟨by decide, .base (.int _)⟩
  · cases e; cases (show v = .str _ from r); exact ⟨by decide, .base (.str _)⟩
  · cases e
    rw [RV] at r
    obtain ⟨a, vs, e, s, q⟩ := r
    subst e
    exact ⟨by decide, tp s⟩
  · cases e
    rw [RV] at r
    obtain ⟨a, vs, e, s, q⟩ := r
    subst e
    exact ⟨by decide, tl s.seq⟩
  · rw [RV] at r
    obtain ⟨a, e1, q⟩ := r
    subst q
    have o := R.obj _ _ e1
    split at e
    · rename_i xs z
      cases e
      rw [z] at o
      obtain ⟨vs, hp, q⟩ := o
      exact ⟨by decide, tl (.of hp)⟩
    · rename_i kvs z
      cases e
      rw [z] at o
      obtain ⟨ws, hp, q, _⟩ := o
      exact ⟨by decide, .base (.dK hp)⟩
    · cases e
  · cases e
def eIsi (b : Nat) (m : Ev → M D) : Ev → M D := fun env G => (m env G).bind fun d G1 => match tyD d G1 with
  | some n => .ok (.bl (isTy n b)) G1
  | none => .no
theorem fe_isi {y : Str} (n : Nat) (hn : 0 < n ∧ n < 7) (hg : Gl X "isinstance") (hm : X.mg "isinstance" = none) (hg2 : Gl X y) (hm2 : X.mg y = none) (hv : bootBuiltins y = some (.type (tyNm n))) (ha : FE X g W a ma)
    (hy : y ≠ "__name__" := by decide) (hd : (y == ("__debug__" : Str)) = false := by decide)
    (q0 : starEach [a, .Name y p2] X.env = (false, eval a X.env) :: starEach [.Name y p2] X.env := by rfl) (q1 : starEach [.Name y p2] X.env = (false, eval (.Name y p2) X.env) :: starEach [] X.env := by rfl) (q2 : (backTo pos (starEach [.Name y p2] X.env)).any (·.1) = false := by rfl) :
    FE X g W (.Call (.Name "isinstance" p) [a, .Name y p2] [] pos) (eIsi n ma) := by
  have hT : PE X (.Name y p2) (tC (.ty (tyNm n))) := ⟨fun _ _ _ H _ I h => ld_blt I hg2 hm2 hv ⟨.ty (tyNm n), H, I, rfl, h⟩ hy hd⟩
  refine PE.imp (pe_callB call_isi hg hm (by decide +kernel) (pa_cons ha (pa_cons hT pa_nil q1) q0) (by decide) (by decide) q0 q2) ?_
  rintro σ H Q ⟨ρ, env, G, R, E, h⟩
  refine tE_run R E h.bind fun d G1 ρ1 H1 x1 R1 h1 v1 r1 => ?_
  cases z : tyD d G1 with
  | none => rw [z] at h1; exact h1.elim
  | some k =>
    rw [z] at h1
    obtain ⟨h7, ty⟩ := tyD_of R1 r1 z
    exact ⟨v1, .ty (tyNm n), _, _, _, rfl, .ty _, ty, kit_ty (isTy_ok k h7 n hn.2 hn.1), h1.now R1 _ rfl⟩

/-! ### methods of built-ins -/
abbrev OM := D → List D → Gh → Option (D × Gh)
def rM (K : PySem.W.Frag) (g : Tg) (f : OM) : V → List V → Hp → VK → Prop := fun x vs H Q => ∃ ρ G d ds, Rep K g ρ G H ∧ RV K g ρ H d x ∧ RVs K g ρ H ds vs ∧ ∃ d' G', f d ds G = some (d', G') ∧ ∀ v ρ' H', Ext ρ H ρ' H' → Rep K g ρ' G' H' → RV K g ρ' H' d' v → Q v H'
abbrev MtF (X : Cx) (g : Tg) (id : String) (f : OM) : Prop := MtR X id (rM X.K g f)
theorem MtR.imp {id : String} {r r' : V → List V → Hp → VK → Prop} (h : MtR X id r) (k : ∀ x xs H Q, r' x xs H Q → r x xs H Q) : MtR X id r' := fun pins s σ H x xs v us Q I rx rxs q => h pins s σ H x xs v us Q I rx rxs (k x xs H Q q)
/-- a list of ours, a text: what methods are asked of -/
def isLst (d : D) (G : Gh) : Bool := match d with
  | .ref l => (match G.ob l with
    | .lst _ => true
    | _ => false)
  | _ => false
def eMt (f : OM) (mo : Ev → M D) (n : Ev → M (List D)) : Ev → M D := fun env G => (mo env G).bind fun d G1 => if isLst d G1 = true then (n env G1).bind fun ds G2 => lift (f d ds G2) else .no
theorem isLst_ty {ρ : List Addr} {G : Gh} {H : Hp} {d : D} {v : V} (R : Rep X.K g ρ G H) (r : RV X.K g ρ H d v) (h : isLst d G = true) : tyV X.K "list" v H := by
  unfold isLst at h
  split at h
  · rw [RV] at r
    obtain ⟨a, e1, q⟩ := r
    subst q
    have o := R.obj _ _ e1
    split at h
    · rename_i xs z
      rw [z] at o
      obtain ⟨vs, hp, q⟩ := o
      exact .inl ⟨rfl, vs, .of hp⟩
    · cases h
  · cases h
theorem fe_lmt {f : OM} {name : Str} (slot : Slot "list" name idn) (hty : typeOf (.builtin idn) = pure (.type "method_descriptor")) (hm : MtF X g idn f) (ho : FE X g W o mo) (ha : FA X g W (e :: es) ms)
    (hbase : attributeBase o name X.env (eval o X.env) = eval o X.env := by rfl)
    (hfew : ((backTo cpos (starEach (e :: es) X.env)).all (fun x => !x.1) && (backToKw cpos (keywordEach [] X.env)).all (fun x => x.1.isSome)
      && decide ((e :: es).length + ([] : List Keyword).length + (if ([] : List Keyword).isEmpty then 0 else 1) < 30)) = true := by rfl)
    (hline : (apos.endLine == cpos.line) = true := by rfl) (hs : starEach (e :: es) X.env = (false, eval e X.env) :: starEach es X.env := by rfl) (hplain : (backTo cpos (starEach es X.env)).any (·.1) = false := by rfl) :
    FE X g W (.Call (.Attribute o name apos) (e :: es) [] cpos) (eMt f mo ms) := by
  refine PE.imp (pe_bm PySem.F.plainAttrs_list slot hty hm ho ha hbase hfew hline hs hplain) ?_
  rintro σ H Q ⟨ρ, env, G, R, E, h⟩
  refine tE_run R E h.bind fun d G1 ρ1 H1 x1 R1 h1 v1 r1 => ?_
  split at h1
  · rename_i hl
    refine ⟨isLst_ty R1 r1 hl, tA_run R1 (E.ext x1) h1.bind fun ds G2 ρ2 H2 x2 R2 h2 vs r2 => ?_⟩
    obtain ⟨d', G', e, k⟩ := h2.lift
    exact ⟨ρ2, G2, d, ds, R2, r1.ext x2, r2, d', G', e, fun v ρ' H' x' R' r' => k ρ' H' x' R' v r'⟩
  · exact h1.elim
theorem fe_lmt0 {f : OM} {name : Str} (slot : Slot "list" name idn) (hty : typeOf (.builtin idn) = pure (.type "method_descriptor")) (hm : MtF X g idn f) (ho : FE X g W o mo)
    (hbase : attributeBase o name X.env (eval o X.env) = eval o X.env := by rfl) (hline : (apos.endLine == cpos.line) = true := by rfl) :
    FE X g W (.Call (.Attribute o name apos) [] [] cpos) (eMt f mo aNil) := by
  refine PE.imp (pe_bm0 PySem.F.plainAttrs_list slot hty hm ho hbase hline) ?_
  rintro σ H Q ⟨ρ, env, G, R, E, h⟩
  refine tE_run R E h.bind fun d G1 ρ1 H1 x1 R1 h1 v1 r1 => ?_
  split at h1
  · rename_i hl
    refine ⟨isLst_ty R1 r1 hl, ?_⟩
    obtain ⟨d', G', e, k⟩ := h1.bind.now R1 |>.lift
    exact ⟨ρ1, G1, d, [], R1, r1, .nil, d', G', e, fun v ρ' H' x' R' r' => k ρ' H' x' R' v r'⟩
  · exact h1.elim
def mAppend : OM := fun d ds G => match d with
  | .ref l => (match G.ob l with
    | .lst xs => (match ds with
      | [y] => if xs.length < sizeLine then some (.non, G.set l (.lst (xs ++ [y]))) else none
      | _ => none)
    | _ => none)
  | _ => none
theorem mf_append : MtF X g "list.append" mAppend := by
  refine MtR.imp mt_append ?_
  rintro x vs H Q ⟨ρ, G, d, ds, R, rd, rs, d', G', e, k⟩
  unfold mAppend at e
  split at e
  · rename_i l
    split at e
    · rename_i xs ho
      split at e
      · rename_i y
        split at e
        · rename_i hz
          cases e
          rw [RV] at rd
          obtain ⟨a, q, z⟩ := rd
          subst z
          obtain ⟨v, rfl, rv⟩ := rs.one
          have o := R.obj _ _ q
          rw [ho] at o
          obtain ⟨ws, hp, r⟩ := o
          obtain ⟨R2, x2⟩ := R.write (o := .lst (ws ++ [v])) (ob := .lst (xs ++ [y])) q (by rw [ho]; rfl) fun x => ⟨_, upd_same, (r.app (.cons rv .nil)).ext x⟩
          exact ⟨a, ws, v, rfl, rfl, hp, by rw [r.len]; exact hz, k _ _ _ x2 R2 rfl⟩
        · cases e
      · cases e
    · cases e
  · cases e
def mExtend : OM := fun d ds G => match d with
  | .ref l => (match G.ob l with
    | .lst xs => (match ds with
      | [.ref l2] => (match G.ob l2 with
        | .lst ys => if xs.length + ys.length ≤ sizeLine then some (.non, G.set l (.lst (xs ++ ys))) else none
        | _ => none)
      | _ => none)
    | _ => none)
  | _ => none
theorem mf_extend : MtF X g "list.extend" mExtend := by
  refine MtR.imp mt_extend ?_
  rintro x vs H Q ⟨ρ, G, d, ds, R, rd, rs, d', G', e, k⟩
  unfold mExtend at e
  split at e
  · rename_i l
    split at e
    · rename_i xs ho
      split at e
      · rename_i l2
        split at e
        · rename_i ys ho2
          split at e
          · rename_i hz
            cases e
            rw [RV] at rd
            obtain ⟨a, q, z⟩ := rd
            subst z
            obtain ⟨v, rfl, rv⟩ := rs.one
            rw [RV] at rv
            obtain ⟨b, q2, z⟩ := rv
            subst z
            have o := R.obj _ _ q
            rw [ho] at o
            obtain ⟨ws, hp, r⟩ := o
            have o2 := R.obj _ _ q2
            rw [ho2] at o2
            obtain ⟨ws2, hp2, r2⟩ := o2
            obtain ⟨R2, x2⟩ := R.write (o := .lst (ws ++ ws2)) (ob := .lst (xs ++ ys)) q (by rw [ho]; rfl) fun x => ⟨_, upd_same, (r.app r2).ext x⟩
            exact ⟨a, b, ws, ws2, rfl, rfl, hp, hp2, by rw [r.len, r2.len]; exact hz, k _ _ _ x2 R2 rfl⟩
          · cases e
        · cases e
      · cases e
    · cases e
  · cases e
def mClear : OM := fun d ds G => match d with
  | .ref l => (match G.ob l with
    | .lst xs => (match ds with
      | [] => some (.non, G.set l (.lst []))
      | _ => none)
    | _ => none)
  | _ => none
theorem mf_clear : MtF X g "list.clear" mClear := by
  refine MtR.imp mt_clear ?_
  rintro x vs H Q ⟨ρ, G, d, ds, R, rd, rs, d', G', e, k⟩
  unfold mClear at e
  split at e
  · rename_i l
    split at e
    · rename_i xs ho
      split at e
      · cases e
        rw [RV] at rd
        obtain ⟨a, q, z⟩ := rd
        subst z
        rw [RVs] at rs
        have o := R.obj _ _ q
        rw [ho] at o
        obtain ⟨ws, hp, r⟩ := o
        obtain ⟨R2, x2⟩ := R.write (o := .lst []) (ob := .lst []) q (by rw [ho]; rfl) fun x => ⟨[], upd_same, .nil⟩
        exact ⟨a, ws, rfl, rs, hp, k _ _ _ x2 R2 rfl⟩
      · cases e
    · cases e
  · cases e
/-! ### d.get -/
def dctD (d : D) (G : Gh) : Option (List (Key × D)) := match d with
  | .ref l => (match G.ob l with
    | .dct kvs => some kvs
    | .lk kvs => some kvs
    | _ => none)
  | _ => none
theorem dct_of {K : PySem.W.Frag} {ρ : List Addr} {G : Gh} {H : Hp} {d : D} {v : V} {kvs : List (Key × D)} (R : Rep K g ρ G H) (r : RV K g ρ H d v) (e : dctD d G = some kvs) : ∃ a ws, v = .ref a ∧ Rd H a (.dK ws) ∧ RM K g ρ H id kvs ws := by
  unfold dctD at e
  split at e
  · rw [RV] at r
    obtain ⟨a, e1, q⟩ := r
    have o := R.obj _ _ e1
    split at e
    · rename_i xs z
      cases e
      rw [z] at o
      obtain ⟨ws, hp, q2, _⟩ := o
      exact ⟨a, ws, q, .inl hp, q2⟩
    · rename_i xs z
      cases e
      rw [z] at o
      obtain ⟨od, ws, hp, q2, _⟩ := o
      exact ⟨a, ws, q, .inr ⟨od, hp⟩, q2⟩
    · cases e
  · cases e
def eGet1 (mo mk : Ev → M D) : Ev → M D := fun env G => (mo env G).bind fun d G1 => match dctD d G1 with
  | some _ => (mk env G1).bind fun y G2 => (match dctD d G2, keyD y with
    | some kvs, some k => .ok ((valD kvs k).getD .non) G2
    | _, _ => .no)
  | none => .no
def eGet2 (mo mk mz : Ev → M D) : Ev → M D := fun env G => (mo env G).bind fun d G1 => match dctD d G1 with
  | some _ => (mk env G1).bind fun y G2 => (mz env G2).bind fun z G3 => (match dctD d G3, keyD y with
    | some kvs, some k => .ok ((valD kvs k).getD z) G3
    | _, _ => .no)
  | none => .no
theorem fe_get1 {mk : Ev → M D} (hu : X.A.units + 1 < cLine) (ho : FE X g W o mo) (hk : FE X g W e mk) (m : M1 X o "get" apos e cpos) : FE X g W (.Call (.Attribute o "get" apos) [e] [] cpos) (eGet1 mo mk) := by
  refine PE.imp (pe_dget1 hu ho hk m) ?_
  rintro σ H Q ⟨ρ, env, G, R, E, h⟩
  refine tE_run R E h.bind fun d G1 ρ1 H1 x1 R1 h1 v1 r1 => ?_
  split at h1
  · rename_i kvs0 e0
    obtain ⟨a, ws, ea, rd, _⟩ := dct_of R1 r1 e0
    refine ⟨a, ea, .inl ⟨ws, rd⟩, tE_run R1 (E.ext x1) h1.bind fun y G2 ρ2 H2 x2 R2 h2 v2 r2 => ?_⟩
    split at h2
    · rename_i kvs k e1 e2
      obtain ⟨a', ws', ea', rd', rm⟩ := dct_of R2 (r1.ext x2) e1
      rw [ea] at ea'; cases ea'
      refine ⟨_, .inl ⟨ws', k, rd', key_of' r2 e2, rfl⟩, h2.now R2 _ ?_⟩
      cases z : valD kvs k with
      | none => rw [(RM.val rm).2 z]; exact rfl
      | some d2 =>
        obtain ⟨w, e3, r3⟩ := (RM.val rm).1 _ z
        rw [e3]
        exact r3
    · exact h2.elim
  · exact h1.elim
theorem fe_get2 {e2 : Expr} {mk mz : Ev → M D} (hu : X.A.units + 1 < cLine) (ho : FE X g W o mo) (hk : FE X g W e mk) (hz : FE X g W e2 mz) (m : M2 X o "get" apos e e2 cpos) : FE X g W (.Call (.Attribute o "get" apos) [e, e2] [] cpos) (eGet2 mo mk mz) := by
  refine PE.imp (pe_dget2 hu ho hk hz m) ?_
  rintro σ H Q ⟨ρ, env, G, R, E, h⟩
  refine tE_run R E h.bind fun d G1 ρ1 H1 x1 R1 h1 v1 r1 => ?_
  split at h1
  · rename_i kvs0 e0
    obtain ⟨a, ws, ea, rd, _⟩ := dct_of R1 r1 e0
    refine ⟨a, ea, .inl ⟨ws, rd⟩, tE_run R1 (E.ext x1) h1.bind fun y G2 ρ2 H2 x2 R2 h2 v2 r2 => tE_run R2 ((E.ext x1).ext x2) h2.bind fun z G3 ρ3 H3 x3 R3 h3 v3 r3 => ?_⟩
    split at h3
    · rename_i kvs k e1 e2
      obtain ⟨a', ws', ea', rd', rm⟩ := dct_of R3 ((r1.ext x2).ext x3) e1
      rw [ea] at ea'; cases ea'
      refine ⟨_, .inl ⟨ws', k, rd', key_of' (r2.ext x3) e2, rfl⟩, h3.now R3 _ ?_⟩
      cases z : valD kvs k with
      | none => rw [(RM.val rm).2 z]; exact r3
      | some d2 =>
        obtain ⟨w, e3, r4⟩ := (RM.val rm).1 _ z
        rw [e3]
        exact r4
    · exact h3.elim
  · exact h1.elim
/-! ### {} -/
def eDct0 : Ev → M D := fun _ G => .ok (.ref G.n) (G.push (.dct []))
theorem fe_dct0 : FE X g W (.Dict [] [] pos) eDct0 := by
  refine PE.imp pe_dnewK ?_
  rintro σ H Q ⟨ρ, env, G, R, E, h⟩ l hl
  have x : Ext ρ H (ρ ++ [l]) (upd H l (.dK [])) := ⟨fun i a e => by rw [List.getElem?_append_left (List.getElem?_eq_some_iff.mp e).1]; exact e, .new hl⟩
  obtain ⟨R', _, q⟩ := R.new (ob := .dct []) hl ⟨[], upd_same, by rw [RM], List.nodup_nil⟩
  exact h _ _ x R' _ (by rw [RV]; exact ⟨l, q, rfl⟩)
end
end Mi
/-! F, part 8: defs, what the head tells, the end. -/
namespace Mi
open PySem PySem.Spec PyProof.Rows L2

/-! ### a def's mirror -/
def mFun (np nn : Nat) (mb : Sm) : List D → M D := fun ds G => if ds.length = np then (match mb (ds.map some ++ List.replicate (nn - np) none) G with
  | .nx _ G' => .ok .non G'
  | .rt d G' => .ok d G'
  | .er c _ G' => .er c G'
  | _ => .no) else .no
section
variable {P : Program} {w : World} {K : PySem.W.Frag} {mg : Str → Option Value} {base : Heap} {g : Tg}
theorem spF_len {np nn : Nat} {mb : Sm} {vs : List V} {H : Hp} {Q : VK} {E : XK} (h : spF K g (mFun np nn mb) vs H Q E) : vs.length = np := by
  obtain ⟨ρ, G, ds, R, r, h⟩ := h
  unfold mFun at h
  split at h
  · rename_i hl
    rw [r.len, hl]
  · exact h.elim
theorem fun_start {np : Nat} {N : List Str} {mb : Sm} {vs : List V} {H : Hp} {Q : VK} {E : XK} (h : spF K g (mFun np N.length mb) vs H Q E) : tS K g (fun c d _ H => E c d H) mb { nx := fun _ H' => Q .non H', rt := Q } (start N vs) H := by
  have hl := spF_len h
  obtain ⟨ρ, G, ds, R, r, h⟩ := h
  unfold mFun at h
  have hd : ds.length = np := by rw [← r.len, hl]
  rw [if_pos hd] at h
  have e : L2.start N vs = vs.map some ++ List.replicate (N.length - np) none := by unfold L2.start; rw [hl]
  rw [e]
  refine ⟨ρ, _, G, R, RE.args (N.length - np) r, ?_⟩
  cases z : mb (ds.map some ++ List.replicate (N.length - np) none) G with
  | nx env G' =>
    rw [z] at h
    exact fun ρ' H' σ' x R' E' => h ρ' H' x R' _ rfl
  | rt d G' =>
    rw [z] at h
    exact fun ρ' H' v x R' r' => h ρ' H' x R' v r'
  | er c env G' =>
    rw [z] at h
    exact fun ρ' H' σ' x R' E' => h ρ' H' x R'
  | bk env G' => rw [z] at h; exact h.elim
  | ct env G' => rw [z] at h; exact h.elim
  | no => rw [z] at h; exact h.elim
variable {x qual : Str} {params : Arguments} {body : List Stmt} {scope : Scope} {f : Addr} {N ps : List Str} {k : Nat} {mb : Sm}
/-- THE RULE for a def -/
theorem fnR (F : ∃ fd, FunD K x qual params body scope [] [] f fd) (S : FnScope N ps scope)
    (hb : ∀ (kV doc pm : Value) (an : Option Addr) (cdv ct : Value) (us : List Value), us.length = ps.length → bindArgs (PySem.W.fnOf x qual params body scope .none kV doc pm an cdv ct) ⟨us, []⟩ = pure (ps.zip us))
    (hbody : ∀ (cdv : Value) (A : Around) (outer : List Env) (s : Shared) (H : Hp) (E : XK), Room k (A.deeper (envOfC qual scope s.heap.objs.size f cdv)) →
      FSs (cxOf (L2N.CX P w) P w K mg base N qual scope f cdv A outer s H E) g (fun c d _ H => E c d H) body mb) : FnR P w K mg base (k + 1) f (spF K g (mFun ps.length N.length mb)) := by
  obtain ⟨fd, F⟩ := F
  refine ⟨⟨fd, ps, F.ok S (fun vs H Q E h => spF_len h) fun cdv A outer s H vs Q E hr h => ⟨_, hbody cdv A outer s H E hr, fun_start h⟩, F.bindsN hb⟩, F.kp⟩
theorem fnO {fd : FuncData} (F : FunD K x qual params body scope [] [] f fd) (S : FnScope N ps scope)
    (hbody : ∀ (cdv : Value) (A : Around) (outer : List Env) (s : Shared) (H : Hp) (E : XK), Room k (A.deeper (envOfC qual scope s.heap.objs.size f cdv)) →
      FSs (cxOf (L2N.CX P w) P w K mg base N qual scope f cdv A outer s H E) g (fun c d _ H => E c d H) body mb) : FnOk P w K mg base (L2N.CX P w) (k + 1) f fd ps (spF K g (mFun ps.length N.length mb)) :=
  F.ok S (fun vs H Q E h => spF_len h) fun cdv A outer s H vs Q E hr h => ⟨_, hbody cdv A outer s H E hr, fun_start h⟩
theorem fnRH (F : ∃ fd, FunD K x qual params body scope [] [] f fd) (S : FnScope N ps scope) {m : Addr → Nat → Sm} {a : Addr} {c : Nat}
    (hb : ∀ (kV doc pm : Value) (an : Option Addr) (cdv ct : Value) (us : List Value), us.length = ps.length → bindArgs (PySem.W.fnOf x qual params body scope .none kV doc pm an cdv ct) ⟨us, []⟩ = pure (ps.zip us))
    (hbody : ∀ (cdv : Value) (A : Around) (outer : List Env) (s : Shared) (H : Hp) (E : XK) (p : Addr × Obj), L2H.Hot1 A p → L2H.RoomH k (A.deeper (envOfC qual scope s.heap.objs.size f cdv)) →
      FSs (L2H.cxH (L2N.CX P w) P w K mg base N qual scope f cdv A outer s H E p) g (fun c d _ H => E c d H) body mb) : FnRH P w K mg base (k + 1) f (spF K g (mFun ps.length N.length mb)) := by
  obtain ⟨fd, F⟩ := F
  have bn := F.bindsN hb
  have kp := F.kp
  obtain ⟨oc, od, dV, kV, doc, pm, an, cdv, ct, osl, rfl, lk, hcd, _, _⟩ := F.ex
  exact ⟨⟨_, ps, L2H.fn_ofH lk hcd S (fun vs H Q E h => spF_len h) fun A outer s H vs Q E p hot hr h => ⟨_, hbody cdv A outer s H E p hot hr, fun_start h⟩, bn⟩, kp⟩
theorem FnR.mono {sp : Sp} {j k : Nat} (F : FnR P w K mg base j f sp) (h : j ≤ k) : FnR P w K mg base k f sp := by
  obtain ⟨fd, ps, o, b⟩ := F.ex
  exact ⟨⟨fd, ps, ⟨o.len, fun A outer s H args us vs Q E hr => o.run A outer s H args us vs Q E (hr.mono h)⟩, b⟩, F.kp⟩
end

/-! ### what the head tells -/
/-- a written value: texts, numbers, tuples of such -/
def valB (K : PySem.W.Frag) : Nat → D → Value → Bool
  | _, .non, .none => true
  | _, .bl b, .bool c => b == c
  | _, .int i, .int j _ => i == j
  | _, .str x, .str y _ => decide (x = y)
  | n + 1, .tup ds, .ref a => (match K.lookup a with
    | some ⟨.type c, _, .seq its _, _⟩ => decide (c = "tuple") && (decide (its.size ≤ 1000) && (decide (its.toList.length = ds.length) && (ds.zip its.toList).all fun p => valB K n p.1 p.2))
    | _ => false)
  | _, _, _ => false
theorem all_zip {K : PySem.W.Frag} {g : Tg} {n : Nat} (ih : ∀ d u, valB K n d u = true → ∃ v, RelV v u ∧ ∀ ρ H, RV K g ρ H d v) : ∀ {ds : List D} {us : List Value}, us.length = ds.length → ((ds.zip us).all fun p => valB K n p.1 p.2) = true → ∃ vs, Vals vs us ∧ ∀ ρ H, RVs K g ρ H ds vs
  | [], [], _, _ => ⟨[], .nil, fun _ _ => .nil⟩
  | [], _ :: _, h, _ => by cases h
  | _ :: _, [], h, _ => by cases h
  | d :: ds, u :: us, h, e => by
    rw [List.zip_cons_cons, List.all_cons, Bool.and_eq_true] at e
    obtain ⟨v, r, k⟩ := ih d u e.1
    obtain ⟨vs, r2, k2⟩ := all_zip ih (Nat.succ.inj h) e.2
    exact ⟨v :: vs, .cons r r2, fun ρ H => .cons (k ρ H) (k2 ρ H)⟩
theorem small1k {n : Nat} (h : n ≤ 1000) : n ≤ sizeLine := Nat.le_trans h (by decide)
theorem valB_ok {K : PySem.W.Frag} {g : Tg} : ∀ (n : Nat) (d : D) (u : Value), valB K n d u = true → ∃ v, RelV v u ∧ ∀ ρ H, RV K g ρ H d v
  | n, .non, u, h => by cases u <;> first | (exact ⟨.non, rfl, fun _ _ => rfl⟩) | (cases n <;> cases h)
  | n, .bl b, u, h => by
    cases u with
    | bool c =>
      have e : b = c := by cases n <;> exact beq_iff_eq.mp h
      exact ⟨.bl b, by rw [e]; rfl, fun _ _ => rfl⟩
    | _ => cases n <;> cases h
  | n, .int b, u, h => by
    cases u with
    | int c t =>
      have e : b = c := by cases n <;> exact beq_iff_eq.mp h
      exact ⟨.int b, ⟨t, by rw [e]⟩, fun _ _ => rfl⟩
    | _ => cases n <;> cases h
  | n, .str b, u, h => by
    cases u with
    | str c t =>
      have e : b = c := by cases n <;> exact of_decide_eq_true h
      exact ⟨.str b, ⟨t, by rw [e]⟩, fun _ _ => rfl⟩
    | _ => cases n <;> cases h
  | 0, .tup ds, u, h => by cases u <;> cases h
  | n + 1, .tup ds, u, h => by
    cases u with
    | ref a =>
      unfold valB at h
      split at h
      · rename_i c dd its m sl q
        rw [Bool.and_eq_true, Bool.and_eq_true, Bool.and_eq_true] at h
        obtain ⟨h1, h2, h3, h4⟩ := h
        obtain ⟨vs, r, k⟩ := all_zip (valB_ok (g := g) n) (of_decide_eq_true h3) h4
        refine ⟨.ref a, rfl, fun ρ H => ?_⟩
        rw [RV]
        exact ⟨a, vs, rfl, .inr ⟨_, its, m, q, congrArg Value.type (of_decide_eq_true h1), rfl, small1k (of_decide_eq_true h2), r⟩, k ρ H⟩
      · cases h
    | _ => cases h
  | n, .rol ds, u, h => by cases n <;> cases u <;> cases h
  | n, .ref ds, u, h => by cases n <;> cases u <;> cases h
  | n, .cst ds, u, h => by cases n <;> cases u <;> cases h
  | n, .exc ds, u, h => by cases n <;> cases u <;> cases h
/-- what an exception's class must say, so that isinstance may be asked -/
def excCB (K : PySem.W.Frag) (D : Addr) : Bool :=
  decide (PySem.W.findIn K (.ref D) "__getattribute__" = some (some (.builtin "BaseException.__getattribute__"))) && (decide (PySem.W.findIn K (.ref D) "__getattr__" = some none) && (decide (PySem.W.subIn K (.ref D) (.type "BaseException") = some true) &&
    (PySem.W.hasDictIn K D && (decide (PySem.W.findIn K (.ref D) "__class__" = some (some (.builtin "object.__class__"))) && (decide (PySem.W.specialIn K (.builtin "object.__class__") "__get__" = some (some (.builtin "getset_descriptor.__get__"))) &&
      (decide (PySem.W.takesIn K (.builtin "object.__class__") = some true) && decide (PySem.W.mroIn K D (.type "object") = some true)))))))
theorem excCB_ok {K : PySem.W.Frag} {D : Addr} (h : excCB K D = true) : ExcC K D := by
  unfold excCB at h
  simp only [Bool.and_eq_true, decide_eq_true_eq] at h
  obtain ⟨h1, h2, h3, h4, h5, h6, h7, h8⟩ := h
  exact ⟨h1, h2, h3, h4, h5, h6, h7, h8⟩
/-- one fact more: of an exception's class; isinstance of it; a written value -/
inductive Fx where
  | exk (x : Str)
  | isi (x y : Str) (b : Bool)
  | isv (x : Str) (b : Bool)
  | val (x : Str) (d : D)
def Fx.ok (K : PySem.W.Frag) : Fx → Bool
  | .exk x => excCB K (He.ga K x)
  | .isi x y b => decide (PySem.W.kitOne K (.ref (He.ga K x)) (.ref (He.ga K y)) = some b)
  | .isv x b => decide (PySem.W.kitOne K (.ref (He.ga K x)) (.type "ValueError") = some b)
  | .val x d => (match PySem.W.nsIn K mainGlobals x with
    | some (some u) => valB K 5 d u
    | _ => false)
structure Txt (fa : List He.Fa) (fn : List He.DefD) (fx : List Fx) (K : PySem.W.Frag) (mg : Str → Option Value) : Prop where
  fact : ∀ f ∈ fa, f.ok K = true
  defs : ∀ d ∈ fn, ∃ fd, FunD K d.name d.qual d.params d.body d.scope (d.dvs K) (d.kws K) (He.fAd K d.at_) fd
  more : ∀ f ∈ fx, f.ok K = true
  ns : ∃ h : Heap, K.In h ∧ h.Ns mainGlobals mg
section
variable {fa : List He.Fa} {fn : List He.DefD} {fx : List Fx} {K : PySem.W.Frag} {mg : Str → Option Value}
theorem Txt.of {w : World} {h : Heap} (c : He.SaysX fa fn [] [] (fun K => fx.all fun f => f.ok K) w h K) (kin : K.In h) (ns : h.Ns mainGlobals mg) : Txt fa fn fx K mg :=
  ⟨fun f hf => He.SaysD.facts c.t.d hf, fun d hd => He.SaysD.defs c.t.d hd, fun f hf => List.all_eq_true.mp c.more f hf, h, kin, ns⟩
theorem Txt.glo (T : Txt fa fn fx K mg) {x : Str} (i : Nat) (h : fa[i]? = some (.glo x) := by rfl) : mg x = some (.ref (He.ga K x)) := let ⟨_, k, n⟩ := T.ns; He.glo_ok k n (T.fact _ (List.mem_of_getElem? h))
theorem Txt.free (T : Txt fa fn fx K mg) {x : Str} (i : Nat) (h : fa[i]? = some (.free x) := by rfl) : mg x = none := let ⟨_, k, n⟩ := T.ns; He.free_ok k n (T.fact _ (List.mem_of_getElem? h))
theorem Txt.int (T : Txt fa fn fx K mg) {x : Str} {z : Int} (i : Nat) (h : fa[i]? = some (.int x z) := by rfl) : ∃ t, mg x = some (.int z t) := let ⟨_, k, n⟩ := T.ns; He.int_ok k n (T.fact _ (List.mem_of_getElem? h))
theorem Txt.str (T : Txt fa fn fx K mg) {x z : Str} (i : Nat) (h : fa[i]? = some (.str x z) := by rfl) : ∃ t, mg x = some (.str z t) := let ⟨_, k, n⟩ := T.ns; He.str_ok k n (T.fact _ (List.mem_of_getElem? h))
theorem Txt.cls (T : Txt fa fn fx K mg) {x : Str} (h : .cls x ∈ fa) : Cls K (He.ga K x) := He.cls_ok (T.fact _ h)
theorem Txt.noat (T : Txt fa fn fx K mg) {x f : Str} (h : .noat x f ∈ fa) : NoAttr K (He.ga K x) f := He.noat_ok (T.fact _ h)
theorem Txt.meth (T : Txt fa fn fx K mg) {x m : Str} (i : Nat) (h : fa[i]? = some (.meth x m) := by rfl) : Meth K (He.ga K x) m (He.ma K (He.ga K x) m) := He.meth_ok (T.fact _ (List.mem_of_getElem? h))
theorem Txt.mkr (T : Txt fa fn fx K mg) {x : Str} (i : Nat) (h : fa[i]? = some (.mkr x) := by rfl) : Mk K (He.ga K x) (He.ma K (He.ga K x) "__init__") := He.mkr_ok (T.fact _ (List.mem_of_getElem? h))
theorem Txt.exc (T : Txt fa fn fx K mg) {x : Str} (i : Nat) (h : fa[i]? = some (.exc x) := by rfl) : ExcOk K (He.ga K x) := let ⟨a, b, c, d⟩ := He.exc_ok (T.fact _ (List.mem_of_getElem? h)); ⟨a, b, c, d⟩
theorem Txt.exm (T : Txt fa fn fx K mg) {x y : Str} {b : Bool} (h : .exm x y b ∈ fa) : PySem.W.exmOne K (.ref (He.ga K x)) (.ref (He.ga K y)) = some b := He.exm_ok (T.fact _ h)
theorem Txt.val (T : Txt fa fn fx K mg) {x : Str} {d : D} {g : Tg} (i : Nat) (h : fx[i]? = some (.val x d) := by rfl) : ∃ u, mg x = some u ∧ ∃ v, RelV v u ∧ ∀ ρ H, RV K g ρ H d v := by
  have c : Fx.ok K (.val x d) = true := T.more _ (List.mem_of_getElem? h)
  unfold Fx.ok at c
  dsimp only at c
  obtain ⟨_, k, n⟩ := T.ns
  split at c
  · rename_i u e
    exact ⟨u, PySem.W.mg_of k n e, valB_ok 5 d u c⟩
  · cases c
end
theorem fe_gval {X : Cx} {g : Tg} {W : WX} {pos : Pos} {x : Str} {d : D} (hg : Gl X x) (hm : ∃ u, X.mg x = some u ∧ ∃ v, RelV v u ∧ ∀ ρ H, RV X.K g ρ H d v) (hd : (x == ("__debug__" : Str)) = false := by decide) : FE X g W (.Name x pos) (eC d) := by
  obtain ⟨u, h1, v, h2, h3⟩ := hm
  exact fe_of (pe_glob hg h1 h2 hd) h3

/-! ### names by numbers -/
/-- the names of L, and behind them texts of one sign alone -/
def nmOf (L : List Str) (n : Nat) : Str := match L[n]? with
  | some s => s
  | none => ⟨Array.replicate (n + 1) 37⟩
def nmB (L : List Str) : Bool := decide L.Nodup && L.all fun s => s.cps[0]? != some 37 && decide (0 < s.cps.size)
theorem nmOf_inj {L : List Str} (h : nmB L = true) : ∀ i j, nmOf L i = nmOf L j → i = j := by
  unfold nmB at h
  rw [Bool.and_eq_true] at h
  obtain ⟨h1, h2⟩ := h
  have nd : L.Nodup := of_decide_eq_true h1
  have ne : ∀ s ∈ L, ∀ n, s ≠ ⟨Array.replicate (n + 1) 37⟩ := fun s hs n e => by
    have := List.all_eq_true.mp h2 s hs
    rw [Bool.and_eq_true] at this
    have h3 := this.1
    rw [e] at h3
    simp at h3
  intro i j e
  unfold nmOf at e
  cases zi : L[i]? with
  | none =>
    cases zj : L[j]? with
    | none =>
      rw [zi, zj] at e
      dsimp only at e
      have e2 := congrArg (fun s : Str => s.cps.size) e
      simp at e2
      exact e2
    | some t =>
      rw [zi, zj] at e
      exact absurd e.symm (ne t (List.mem_of_getElem? zj) i)
  | some s =>
    cases zj : L[j]? with
    | none =>
      rw [zi, zj] at e
      exact absurd e (ne s (List.mem_of_getElem? zi) j)
    | some t =>
      rw [zi, zj] at e
      dsimp only at e
      subst e
      obtain ⟨hi, ei⟩ := List.getElem?_eq_some_iff.mp zi
      obtain ⟨hj, ej⟩ := List.getElem?_eq_some_iff.mp zj
      exact (List.getElem_inj nd).mp (ei.trans ej.symm)
def badOf (L : List Str) (y : Str) : Option Nat := L.findIdx? fun s => decide (s = y)
theorem badOf_ok {L : List Str} {y : Str} {bad : Option Nat} (h : nmB L = true) (hb : badOf L y = bad) (h2 : (y.cps[0]? != some 37) = true) : ∀ f, nmOf L f = y → bad = some f := by
  intro f e
  subst hb
  unfold badOf
  unfold nmOf at e
  cases z : L[f]? with
  | none =>
    rw [z] at e
    dsimp only at e
    rw [← e] at h2
    simp at h2
  | some s =>
    rw [z] at e
    dsimp only at e
    subst e
    cases q : L.findIdx? fun t => decide (t = s) with
    | none =>
      have := List.findIdx?_eq_none_iff.mp q s (List.mem_of_getElem? z)
      simp at this
    | some k =>
      obtain ⟨hk, e2, _⟩ := List.findIdx?_eq_some_iff_getElem.mp q
      have e3 : L[k] = s := of_decide_eq_true e2
      have nd : L.Nodup := by
        unfold nmB at h
        rw [Bool.and_eq_true] at h
        exact of_decide_eq_true h.1
      obtain ⟨hi, ei⟩ := List.getElem?_eq_some_iff.mp z
      rw [(List.getElem_inj nd).mp (e3.trans ei.symm)]
/-- the tags: classes by their names' numbers, fields by theirs -/
def tgOf (K : PySem.W.Frag) (cl fl : List Str) : Tg := ⟨fun n => He.ga K (nmOf cl n), nmOf fl⟩
/-- (class, field): plain, and no attribute of the class -/
def naOf (l : List (Nat × Nat)) (c f : Nat) : Bool := l.contains (c, f)
def naFa (cl fl : List Str) (l : List (Nat × Nat)) : List He.Fa := (l.map fun p => He.Fa.noat (nmOf cl p.1) (nmOf fl p.2)) ++ l.map fun p => He.Fa.cls (nmOf cl p.1)
theorem na_ok {fa : List He.Fa} {fn : List He.DefD} {fx : List Fx} {K : PySem.W.Frag} {mg : Str → Option Value} (T : Txt fa fn fx K mg) {cl fl : List Str} {l : List (Nat × Nat)} (h : ∀ f ∈ naFa cl fl l, f ∈ fa) : NaOk K (tgOf K cl fl) (naOf l) := by
  intro c f e
  have hm : (c, f) ∈ l := by simpa [naOf] using e
  exact ⟨T.cls (h _ (List.mem_append_right _ (List.mem_map.mpr ⟨_, hm, rfl⟩))), T.noat (h _ (List.mem_append_left _ (List.mem_map.mpr ⟨_, hm, rfl⟩)))⟩
/-- which clauses name which classes -/
def sbOf (l : List (Nat × Bool)) (c : Nat) : Option Bool := l.lookup c
def sbFa (cl : List Str) (cc : Nat) (l : List (Nat × Bool)) : List He.Fa := l.map fun p => He.Fa.exm (nmOf cl p.1) (nmOf cl cc) p.2
theorem lookup_memN {β : Type} {a : Nat} {b : β} : ∀ {l : List (Nat × β)}, l.lookup a = some b → (a, b) ∈ l
  | [], h => by cases h
  | (k, v) :: r, h => by
    rw [List.lookup_cons] at h
    cases z : a == k with
    | true =>
      rw [z] at h
      cases h
      rw [beq_iff_eq.mp z]
      exact List.mem_cons_self
    | false =>
      rw [z] at h
      exact List.mem_cons_of_mem _ (lookup_memN h)
theorem sb_ok {fa : List He.Fa} {fn : List He.DefD} {fx : List Fx} {K : PySem.W.Frag} {mg : Str → Option Value} (T : Txt fa fn fx K mg) {cl fl : List Str} {cc : Nat} {l : List (Nat × Bool)} (h : ∀ f ∈ sbFa cl cc l, f ∈ fa) :
    ∀ c b, sbOf l c = some b → PySem.W.exmOne K (.ref ((tgOf K cl fl).ca c)) (.ref ((tgOf K cl fl).ca cc)) = some b := fun c b e => T.exm (h _ (List.mem_map.mpr ⟨_, lookup_memN e, rfl⟩))
theorem fnInj_of {K : PySem.W.Frag} {cl fl : List Str} (h : nmB fl = true) : FnInj (tgOf K cl fl) := nmOf_inj h

/-! ### isinstance of the exception that a suite holds -/
def eIsE (a0 : Addr) (i c : Nat) (tab : List (Nat × Bool)) : Ev → M D := fun env G => match env[i]? with
  | some (some (.exc a)) => if a = a0 then (match sbOf tab c with
    | some b => .ok (.bl b) G
    | none => .no) else .no
  | _ => .no
section
variable {X : Cx} {g : Tg} {W : WX} {pos p p2 q2 : Pos}
theorem call_isX {a D : Addr} {oe : Obj} (hp : (a, oe) ∈ X.pn) (C : ExcC X.K D) (hz : Zc (.ref D) none oe) (hf : ∃ vs, oe.data = .fields vs) : CallR X (.builtin "isinstance") (rIsE X.K D a) := by
  intro pins s σ H xs us Q I r h
  obtain ⟨c, cv, b, rfl, hcv, e, q⟩ := h
  obtain ⟨u1, u2, rfl, r1, r2⟩ := vals2 r
  cases (show u1 = Value.ref a from r1)
  cases hcv _ r2
  obtain ⟨vs, hv⟩ := hf
  have J : PySem.W.InstAt s.heap a oe D none := by
    have hget := (I.pin (a, oe) (List.mem_append_left _ hp)).1
    obtain ⟨oc, od, oda, osl⟩ := oe
    obtain ⟨h1, h2⟩ := hz
    dsimp only at h1 h2 hv
    subst h1 h2 hv
    exact ⟨hget, rfl, rfl, trivial⟩
  exact PySem.W.kia_one (PySem.W.handS_kitx_exc C.hg C.hk C.hs C.hd C.ha C.hn C.ht C.hm) I.kIn J e (fun z => nomatch z) fun tk => ⟨.bl b, H, I.tok tk, rfl, q⟩
/-- isinstance(e, T): T a class, by its value -/
theorem fe_isE {x y : Str} {a0 : Addr} {oe : Obj} {i c : Nat} {tab : List (Nat × Bool)} {v : V} {u : Value} (hp : (a0, oe) ∈ X.pn) (C : ExcC X.K (g.ca c)) (hz : Zc (.ref (g.ca c)) none oe) (hf : ∃ vs, oe.data = .fields vs)
    (hN : X.N[i]? = some x) (hv : Vis X.env.scope x) (hg : Gl X "isinstance") (hm : X.mg "isinstance" = none) (hT : PE X (.Name y q2) (tC v)) (hr : ∀ w, RelV v w → w = u) (htab : ∀ b, sbOf tab c = some b → PySem.W.kitOne X.K (.ref (g.ca c)) u = some b)
    (hd : (x == ("__debug__" : Str)) = false := by decide) (hcd : (x == ("__classdict__" : Str)) = false := by decide)
    (q0 : starEach [.Name x p2, .Name y q2] X.env = (false, eval (.Name x p2) X.env) :: starEach [.Name y q2] X.env := by rfl) (q1 : starEach [.Name y q2] X.env = (false, eval (.Name y q2) X.env) :: starEach [] X.env := by rfl) (q3 : (backTo pos (starEach [.Name y q2] X.env)).any (·.1) = false := by rfl) :
    FE X g W (.Call (.Name "isinstance" p) [.Name x p2, .Name y q2] [] pos) (eIsE a0 i c tab) := by
  refine PE.imp (pe_callB (call_isX hp C hz hf) hg hm (by decide +kernel) (pa_cons (pe_var hN hv hd hcd) (pa_cons hT pa_nil q1) q0) (by decide) (by decide) q0 q3) ?_
  rintro σ H Q ⟨ρ, env, G, R, E, h⟩
  unfold eIsE at h
  split at h
  · rename_i a e
    split at h
    · rename_i ea
      subst ea
      split at h
      · rename_i b eb
        obtain ⟨w, e1, r1⟩ := E.get e
        cases (show w = .ref a from r1)
        exact ⟨_, e1, v, u, b, rfl, hr, htab b eb, h.now R _ rfl⟩
      · exact h.elim
    · exact h.elim
  · exact h.elim
end

/-! ### the end -/
theorem cx_none {P : Program} {w : World} {outer : List Env} {H : Hp} {s : Shared} {e : Value} {s' : Shared} (h : L2N.CX P w outer H s (fun _ _ _ => False) e s') : False := by
  obtain ⟨_, _, _, _, _, _, _, _, _, _, _, _, z⟩ := h
  exact z
theorem walk_mi {l : PySem.W.OpenLaw} {n k : Nat} {q : Program} {loose : List Str} {XP : (Str → Option Value) → Heap → Prop} {YP : World → Heap → Prop} {d : DefRec} {x : Str} {m : List D → M D}
    (hn : l.most = some n) (hn2 : n ≤ sizeLine) (hdf : d.params.defaults = []) (hr : Room k callerA)
    (F : ∀ (w : World) (mg : Str → Option Value) (fa : Addr) (h : Heap), YP w h → h.Ns mainGlobals mg → mg d.name = some (.ref fa) →
      ∃ (K : PySem.W.Frag) (g : Tg) (fd : FuncData), K.In h ∧ (∀ (s : Shared) (u : Value), BindsTo s fd ⟨[u], []⟩ [(x, u)]) ∧ ∀ base : Heap, K.In base → base.Ns mainGlobals mg → FnOk l.prog w K mg base (L2N.CX l.prog w) k fa fd [x] (spF K g m))
    (law : ∀ ns : List Int, ns.length ≤ n → (∀ z ∈ ns, Builtin.Int.intBits z ≤ 1048576) → ∃ G, m [.rol (ns.map D.int)] ⟨0, fun _ => .lst []⟩ = .ok (.bl true) G) :
    PySem.W.WalkO q loose XP YP l.row.toRowW d [] (fun f vs => PySem.call f vs) := by
  refine Att.attach_callB hn hdf fun w s₀ s₁ mg mb fa o pm cd doc a vs ns G Y ho hd hcd hmg hobj hints hlen hbits hg => ?_
  obtain ⟨K, g, fd, KX, hb, hF⟩ := F w mg fa _ Y G.T.g hmg
  refine law_call KX G.T.g G.T.b G.T.builtins G.T.nolimit hg hobj hints (Nat.le_trans hlen hn2) hr hF hb (fun H hO hS => ?_) fun H e s' h => cx_none h
  obtain ⟨G1, e⟩ := law ns hlen hbits
  have sr : SqR K H a (ns.map V.int) := by
    rcases hS with (h | ⟨ob, h⟩) | h
    · rcases hO a with z | ⟨o2, xs, z⟩
      · rw [z] at h; cases h
      · rw [z] at h; cases h
    · exact .inl ⟨ob, h⟩
    · exact .inr h
  have ri : ∀ l : List Int, RVs K g [] H (l.map D.int) (l.map V.int) := fun l => by
    induction l with
    | nil => exact .nil
    | cons i l ih => exact .cons rfl ih
  refine ⟨[], ⟨0, fun _ => .lst []⟩, [.rol (ns.map D.int)], ⟨rfl, List.nodup_nil, fun i b e => by simp at e⟩, .cons (by rw [RV]; exact ⟨a, _, rfl, sr, ri ns⟩) .nil, ?_⟩
  rw [e]
  exact fun ρ' H' x R' v r => r
end Mi
/-! F, part 9: the rules as the printed texts use them. -/
namespace Mi
open PySem PySem.Spec PyProof.Rows L2

/-! ### names: facts of a scope, shown once -/
def visI (sc : Scope) (N : List Str) (is : List Nat) : Bool := is.all fun i => match N[i]? with
  | some x => (match sc.names.lookup x with
    | some .local => true
    | some .cell => true
    | some .free => true
    | _ => false) && (!(x == ("__debug__" : Str)) && !(x == ("__classdict__" : Str)))
  | none => false
def stoI (sc : Scope) (fn : Str → Bool) (N : List Str) (is : List Nat) : Bool := is.all fun i => match N[i]? with
  | some x => (match sc.names.lookup x with
    | some .local => true
    | some .cell => fn x
    | _ => false)
  | none => false
def glI (sc : Scope) (L : List Str) : Bool := L.all fun x => (match sc.names.lookup x with
    | some .globalImplicit => true
    | _ => false) && (!(x == ("__debug__" : Str)) && !decide (x = "__name__"))
theorem all_at {is : List Nat} {p : Nat → Bool} {i : Nat} (h : is.all p = true) (hi : is.contains i = true) : p i = true := List.all_eq_true.mp h i (List.contains_iff_mem.mp hi)
structure GlN (X : Cx) (x : Str) : Prop where
  gl : Gl X x
  nd : (x == ("__debug__" : Str)) = false
  nn : x ≠ "__name__"
section
variable {X : Cx} {g : Tg} {W : WX} {pos pos' tpos p p2 np apos cpos : Pos} {a b e o : Expr} {es : List Expr} {ma mb mo mk mz : Ev → M D} {ms : Ev → M (List D)} {st b₀ : Stmt} {rest sa sb body suite : List Stmt} {m n m' : Sm} {x y : Str} {f C : Addr} {mm : List D → M D} {is : List Nat} {L : List Str}
theorem vis_of {i : Nat} (V : visI X.env.scope X.N is = true) (hi : is.contains i = true) (hN : X.N[i]? = some x) : Vis X.env.scope x ∧ (x == ("__debug__" : Str)) = false ∧ (x == ("__classdict__" : Str)) = false := by
  have h := all_at V hi
  rw [hN] at h
  dsimp only at h
  rw [Bool.and_eq_true, Bool.and_eq_true] at h
  obtain ⟨h1, h2, h3⟩ := h
  refine ⟨?_, by simpa using h2, by simpa using h3⟩
  split at h1
  · exact .inl (by assumption)
  · exact .inr (.inl (by assumption))
  · exact .inr (.inr (by assumption))
  · cases h1
theorem sto_of {i : Nat} (V : stoI X.env.scope X.fn X.N is = true) (hi : is.contains i = true) (hN : X.N[i]? = some x) : Loc X.env.scope x ∧ (X.fn x = true ∨ X.env.scope.names.lookup x = some .local) := by
  have h := all_at V hi
  rw [hN] at h
  dsimp only at h
  split at h
  · exact ⟨.inl (by assumption), .inr (by assumption)⟩
  · exact ⟨.inr (by assumption), .inl h⟩
  · cases h
theorem glx {j : Nat} (V : glI X.env.scope L = true) (hj : L[j]? = some x) : GlN X x := by
  have h := List.all_eq_true.mp V x (List.mem_of_getElem? hj)
  rw [Bool.and_eq_true, Bool.and_eq_true] at h
  obtain ⟨h1, h2, h3⟩ := h
  refine ⟨?_, by simpa using h2, by simpa using h3⟩
  split at h1
  · assumption
  · cases h1
theorem fe_vr (i : Nat) (V : visI X.env.scope X.N is = true) (hi : is.contains i = true := by rfl) (hN : X.N[i]? = some x := by rfl) : FE X g W (.Name x pos) (eVar i) :=
  let ⟨h1, h2, h3⟩ := vis_of V hi hN; fe_var i hN h1 h2 h3
theorem fg_nm (i : Nat) (nd : X.N.Nodup) (V : stoI X.env.scope X.fn X.N is = true) (hi : is.contains i = true := by rfl) (hN : X.N[i]? = some x := by rfl) : FG X g (.Name x pos) (gmN i) [i] :=
  let ⟨h1, h2⟩ := sto_of V hi hN; fg_name i nd hN h1 h2
theorem fs_st (i : Nat) (nd : X.N.Nodup) (V : stoI X.env.scope X.fn X.N is = true) (ha : FE X g W a ma) (hi : is.contains i = true := by rfl) (hN : X.N[i]? = some x := by rfl) (hs : swapsWith a (some (.Name x pos')) pos.line X.env = pure false := by rfl) : FS X g W (.Assign [.Name x pos'] a pos) (sAsg (gmN i) ma) :=
  let ⟨h1, h2⟩ := sto_of V hi hN; fs_set i nd hN h1 h2 ha hs
theorem fs_au (i : Nat) {op : Operator} {h2 : O2} (nd : X.N.Nodup) (V : stoI X.env.scope X.fn X.N is = true) (hop : OpF X g (inplaceOp op) h2) (hv : FE X g W a ma) (hi : is.contains i = true := by rfl) (hN : X.N[i]? = some x := by rfl) : FS X g W (.AugAssign (.Name x pos') op a pos) (sAug i h2 ma) :=
  let ⟨h1, h3⟩ := sto_of V hi hN; fs_aug i nd hN h1 h3 hop hv
theorem fs_fk {tg : Expr} {t : Tm} {ws : List Nat} (j : Nat) (hp : PassesOwn (model X.prog X.w) X.A X.env X.xe) (hc : X.calm = true) (V : visI X.env.scope X.N is = true) (hg : FG X g tg t ws) (hb : FSs X g W body m) (hi : is.contains j = true := by rfl) (hN : X.N[j]? = some x := by rfl)
    (hs : ∀ y, foldedSetIterable (.Name x p) X.env y = pure y := by intro _; rfl) : FS X g W (.For tg (.Name x p) body [] pos) (sForK j t m) :=
  let ⟨h1, h2, h3⟩ := vis_of V hi hN; fs_forK hp hc hN h1 hg hb h2 h3 hs

/-! ### global names -/
theorem fe_gi {i : Int} (G : GlN X x) (hm : ∃ t, X.mg x = some (.int i t)) : FE X g W (.Name x pos) (eC (.int i)) := fe_gint G.gl hm G.nd
theorem fe_gs {i : Str} (G : GlN X x) (hm : ∃ t, X.mg x = some (.str i t)) : FE X g W (.Name x pos) (eC (.str i)) := fe_gstr G.gl hm G.nd
theorem fe_gv {d : D} (G : GlN X x) (hm : ∃ u, X.mg x = some u ∧ ∃ v, RelV v u ∧ ∀ ρ H, RV X.K g ρ H d v) : FE X g W (.Name x pos) (eC d) := fe_gval G.gl hm G.nd
theorem fe_ca (F : Cal X f (spF X.K g mm)) (G : GlN X x) (hm : X.mg x = some (.ref f)) (tk : L2N.Takes X W) (ha : FA X g W (e :: es) ms)
    (q1 : starEach (e :: es) X.env = (false, eval e X.env) :: starEach es X.env := by rfl) (q2 : (backTo pos (starEach es X.env)).any (·.1) = false := by rfl) :
    FE X g W (.Call (.Name x p) (e :: es) [] pos) (eCall mm ms) := fe_call F G.gl hm tk ha G.nd q1 q2
theorem fe_ca0 (F : Cal X f (spF X.K g mm)) (G : GlN X x) (hm : X.mg x = some (.ref f)) (tk : L2N.Takes X W) : FE X g W (.Call (.Name x p) [] [] pos) (eCall mm aNil) := fe_call0 F G.gl hm tk G.nd
theorem fe_mk {c k : Nat} (M : Mk X.K (g.ca c) f) (F : FnR X.prog X.w X.K X.mg X.base k f (spF X.K g mm)) (hr : Room (k + 1) X.A) (tk : L2N.Takes X W) (G : GlN X x) (hm : X.mg x = some (.ref (g.ca c))) (ha : FA X g W (e :: es) ms)
    (q1 : starEach (e :: es) X.env = (false, eval e X.env) :: starEach es X.env := by rfl) (q2 : (backTo pos (starEach es X.env)).any (·.1) = false := by rfl) :
    FE X g W (.Call (.Name x p) (e :: es) [] pos) (eMake c mm ms) := fe_make M F hr tk G.gl hm ha G.nd q1 q2
theorem fe_mk0 {c k : Nat} (M : Mk X.K (g.ca c) f) (F : FnR X.prog X.w X.K X.mg X.base k f (spF X.K g mm)) (hr : Room (k + 1) X.A) (tk : L2N.Takes X W) (G : GlN X x) (hm : X.mg x = some (.ref (g.ca c))) :
    FE X g W (.Call (.Name x p) [] [] pos) (eMake c mm aNil) := fe_make0 M F hr tk G.gl hm G.nd
theorem fs_ra {c j : Nat} {z : Str} (hc : X.calm = true) (tk : L2N.Takes X W) (hx : ExcOk X.K (g.ca c)) (G : GlN X x) (gC : X.mg x = some (.ref (g.ca c))) :
    FS X g W (.Raise (some (.Call (.Name x p) [.Constant (.str z) j p2] [] pos)) none pos') (sRaise c) := fs_raise hc tk hx gC G.gl G.nd
theorem names_of {u : Value} (G : GlN X x) (hm : X.mg x = some u) : Names X x u := ⟨G.gl, G.nd, .inl hm⟩
/-! ### built-ins by name -/
theorem bt_len : bootBuiltins "len" = some (.builtin "len") := by decide +kernel
theorem bt_min : bootBuiltins "min" = some (.builtin "min") := by decide +kernel
theorem bt_max : bootBuiltins "max" = some (.builtin "max") := by decide +kernel
theorem bt_sum : bootBuiltins "sum" = some (.builtin "sum") := by decide +kernel
theorem bt_all : bootBuiltins "all" = some (.builtin "all") := by decide +kernel
theorem bt_any : bootBuiltins "any" = some (.builtin "any") := by decide +kernel
theorem bt_int : bootBuiltins "int" = some (.type "int") := by decide +kernel
theorem bt_str : bootBuiltins "str" = some (.type "str") := by decide +kernel
theorem bt_list : bootBuiltins "list" = some (.type "list") := by decide +kernel
theorem bt_tuple : bootBuiltins "tuple" = some (.type "tuple") := by decide +kernel
theorem bt_bool : bootBuiltins "bool" = some (.type "bool") := by decide +kernel
theorem bt_ValueError : bootBuiltins "ValueError" = some (.type "ValueError") := by decide +kernel
theorem bt_dict : bootBuiltins "dict" = some (.type "dict") := by decide +kernel
variable {idn T : String} {ff : O1}
theorem fe_bb (hv : bootBuiltins x = some (.builtin idn)) (hc : CalF X g (.builtin idn) ff) (G : GlN X x) (hm : X.mg x = none) (ha : FA X g W (e :: es) ms)
    (q1 : starEach (e :: es) X.env = (false, eval e X.env) :: starEach es X.env := by rfl) (q2 : (backTo pos (starEach es X.env)).any (·.1) = false := by rfl) : FE X g W (.Call (.Name x p) (e :: es) [] pos) (eB ff ms) := fe_blt hc G.gl hm hv ha G.nn G.nd q1 q2
theorem fe_bt (hv : bootBuiltins x = some (.type T)) (hc : CalF X g (.type T) ff) (G : GlN X x) (hm : X.mg x = none) (ha : FA X g W (e :: es) ms)
    (q1 : starEach (e :: es) X.env = (false, eval e X.env) :: starEach es X.env := by rfl) (q2 : (backTo pos (starEach es X.env)).any (·.1) = false := by rfl) : FE X g W (.Call (.Name x p) (e :: es) [] pos) (eB ff ms) := fe_bty hc G.gl hm hv ha G.nn G.nd q1 q2
theorem fe_is (k : Nat) (hv : bootBuiltins y = some (.type (tyNm k))) (G : GlN X "isinstance") (hm : X.mg "isinstance" = none) (G2 : GlN X y) (hm2 : X.mg y = none) (ha : FE X g W a ma) (hk : 0 < k ∧ k < 7 := by decide)
    (q0 : starEach [a, .Name y p2] X.env = (false, eval a X.env) :: starEach [.Name y p2] X.env := by rfl) (q1 : starEach [.Name y p2] X.env = (false, eval (.Name y p2) X.env) :: starEach [] X.env := by rfl) (q2 : (backTo pos (starEach [.Name y p2] X.env)).any (·.1) = false := by rfl) :
    FE X g W (.Call (.Name "isinstance" p) [a, .Name y p2] [] pos) (eIsi k ma) := fe_isi k hk G.gl hm G2.gl hm2 hv ha G2.nn G2.nd q0 q1 q2
/-! ### methods of built-ins by name -/
theorem fe_append (ho : FE X g W o mo) (ha : FA X g W [e] ms)
    (q1 : attributeBase o "append" X.env (eval o X.env) = eval o X.env := by rfl)
    (q2 : ((backTo cpos (starEach [e] X.env)).all (fun x => !x.1) && (backToKw cpos (keywordEach [] X.env)).all (fun x => x.1.isSome)
      && decide (([e] : List Expr).length + ([] : List Keyword).length + (if ([] : List Keyword).isEmpty then 0 else 1) < 30)) = true := by rfl)
    (q3 : (apos.endLine == cpos.line) = true := by rfl) (q4 : starEach [e] X.env = (false, eval e X.env) :: starEach [] X.env := by rfl) (q5 : (backTo cpos (starEach [] X.env)).any (·.1) = false := by rfl) :
    FE X g W (.Call (.Attribute o "append" apos) [e] [] cpos) (eMt mAppend mo ms) := fe_lmt PySem.F.slot_list_append PySem.F.type_list_append mf_append ho ha q1 q2 q3 q4 q5
theorem fe_extend (ho : FE X g W o mo) (ha : FA X g W [e] ms)
    (q1 : attributeBase o "extend" X.env (eval o X.env) = eval o X.env := by rfl)
    (q2 : ((backTo cpos (starEach [e] X.env)).all (fun x => !x.1) && (backToKw cpos (keywordEach [] X.env)).all (fun x => x.1.isSome)
      && decide (([e] : List Expr).length + ([] : List Keyword).length + (if ([] : List Keyword).isEmpty then 0 else 1) < 30)) = true := by rfl)
    (q3 : (apos.endLine == cpos.line) = true := by rfl) (q4 : starEach [e] X.env = (false, eval e X.env) :: starEach [] X.env := by rfl) (q5 : (backTo cpos (starEach [] X.env)).any (·.1) = false := by rfl) :
    FE X g W (.Call (.Attribute o "extend" apos) [e] [] cpos) (eMt mExtend mo ms) := fe_lmt PySem.F.slot_list_extend PySem.F.type_list_extend mf_extend ho ha q1 q2 q3 q4 q5
theorem fe_clear (ho : FE X g W o mo) (q1 : attributeBase o "clear" X.env (eval o X.env) = eval o X.env := by rfl) (q2 : (apos.endLine == cpos.line) = true := by rfl) :
    FE X g W (.Call (.Attribute o "clear" apos) [] [] cpos) (eMt mClear mo aNil) := fe_lmt0 PySem.F.slot_list_clear PySem.F.type_list_clear mf_clear ho q1 q2
theorem fe_g1 (hu : X.A.units + 1 < cLine) (ho : FE X g W o mo) (hk : FE X g W e mk) (m1 : attributeBase o "get" X.env (eval o X.env) = eval o X.env := by rfl)
    (m2 : ((backTo cpos (starEach [e] X.env)).all (fun x => !x.1) && (backToKw cpos (keywordEach [] X.env)).all (fun x => x.1.isSome)
      && decide (([e] : List Expr).length + ([] : List Keyword).length + (if ([] : List Keyword).isEmpty then 0 else 1) < 30)) = true := by rfl)
    (m3 : (apos.endLine == cpos.line) = true := by rfl) (m4 : backTo cpos (starEach [e] X.env) = [(false, eval e X.env)] := by rfl) : FE X g W (.Call (.Attribute o "get" apos) [e] [] cpos) (eGet1 mo mk) := fe_get1 hu ho hk ⟨m1, m2, m3, m4⟩
theorem fe_g2 {e2 : Expr} (hu : X.A.units + 1 < cLine) (ho : FE X g W o mo) (hk : FE X g W e mk) (hz : FE X g W e2 mz) (m1 : attributeBase o "get" X.env (eval o X.env) = eval o X.env := by rfl)
    (m2 : ((backTo cpos (starEach [e, e2] X.env)).all (fun x => !x.1) && (backToKw cpos (keywordEach [] X.env)).all (fun x => x.1.isSome)
      && decide (([e, e2] : List Expr).length + ([] : List Keyword).length + (if ([] : List Keyword).isEmpty then 0 else 1) < 30)) = true := by rfl)
    (m3 : (apos.endLine == cpos.line) = true := by rfl) (m4 : backTo cpos (starEach [e, e2] X.env) = [(false, eval e X.env), (false, eval e2 X.env)] := by rfl) : FE X g W (.Call (.Attribute o "get" apos) [e, e2] [] cpos) (eGet2 mo mk mz) := fe_get2 hu ho hk hz ⟨m1, m2, m3, m4⟩
/-! ### - a -/
def opNeg : D → Gh → Option (D × Gh) := fun x G => match x with
  | .int i => some (.int (-i), G)
  | _ => none
theorem fe_neg (ha : FE X g W a ma) : FE X g W (.UnaryOp .USub a pos) (eUn opNeg ma) := by
  refine fe_un (fun pins s σ H x v Q I r h => ?_) ha
  obtain ⟨ρ, G, d, R, rd, d', G', e, k⟩ := h
  unfold opNeg at e
  split at e
  · cases e
    cases (show x = .int _ from rd)
    exact un_neg pins s σ H _ v Q I r ⟨_, rfl, k _ ρ H (.refl _ _) R rfl⟩
  · cases e
/-! ### nothing runs -/
theorem fss_never : FSs X g W body sNever := ⟨fun pins s σ H D I h => by
  obtain ⟨ρ, env, G, R, E, h⟩ := h
  exact h.elim⟩
theorem takesF {s : Shared} {H : Hp} {sc : Scope} {ce : Env} {fp : List Addr} : L2N.Takes (X.blk s H sc ce fp) WF := fun _ _ x => by
  obtain ⟨_, _, _, _, _, _, _, _, _, _, _, _, _, _, _, _, z⟩ := x
  exact z.elim
theorem takesS {a0 : Addr} {pn : List (Addr × Obj)} : L2N.Takes (X.suite a0 pn) WF := fun _ _ x => by
  obtain ⟨_, _, _, _, _, _, _, _, _, _, _, _, _, _, _, _, z⟩ := x
  exact z.elim
end
end Mi
/-! F, part 10: the def that is asked of the exception an except suite holds. -/
namespace Mi
open PySem PySem.Spec PyProof.Rows L2

/-- f keeps its promise where p's object is the exception that is handled -/
structure FnQ (p : Addr × Obj) (P : Program) (w : World) (K : PySem.W.Frag) (mg : Str → Option Value) (base : Heap) (k : Nat) (f : Addr) (fd : FuncData) (ps : List Str) (sp : Sp) : Prop where
  len : ∀ vs H Q E, sp vs H Q E → vs.length = ps.length
  run : ∀ (A : Around) (outer : List Env) (s : Shared) (H : Hp) (args : Args) (us : List Value) (vs : List V) (Q : VK) (E : XK),
    L2H.RoomH k A → L2H.Hot1 A p → L2H.PinOk outer H s p → Env0 P w K mg base A outer s H → BindsTo s fd args (ps.zip us) → Vals vs us → sp vs H Q E →
      codeAny (model P w) A (.call (.ref f) args) (CR (L2N.CX P w) outer P w H s Q E) s
theorem fnQ_of {p : Addr × Obj} {P : Program} {w : World} {K : PySem.W.Frag} {mg : Str → Option Value} {base : Heap} {k : Nat} {f : Addr} {nme qul : Str} {prs : Arguments} {bdy : List Stmt} {scp : Scope} {fd : FuncData} {N ps : List Str} {sp : Sp}
    (F : FunD K nme qul prs bdy scp [] [] f fd) (S : FnScope N ps scp) (len : ∀ vs H Q E, sp vs H Q E → vs.length = ps.length)
    (hbody : ∀ (cdv : Value) (A : Around) (outer : List Env) (s : Shared) (H : Hp) (vs : List V) (Q : VK) (E : XK), L2H.Hot1 A p → L2H.RoomH k (A.deeper (envOfC qul scp s.heap.objs.size f cdv)) → sp vs H Q E →
      ∃ t, PSs (L2H.cxH (L2N.CX P w) P w K mg base N qul scp f cdv A outer s H E p) bdy t ∧ t { nx := fun _ H' => Q .non H', rt := Q } (L2.start N vs) H) :
    FnQ p P w K mg base (k + 1) f fd ps sp := by
  obtain ⟨oc, od, dV, kV, doc, pm, an, cdv, ct, osl, rfl, lk, hcd, _, _⟩ := F.ex
  refine ⟨len, fun A outer s H args us vs Q E room hot pin env bnd rel prm => ?_⟩
  have hlen := len _ _ _ _ prm
  have inH : K.In s.heap := env.mod.kin.keeps fun b o q => (env.bs b o q).1
  have noL : s.heap.NoLimit := env.mod.nolimit.keeps fun b o q => (env.bs b o q).1
  have kinds : ∀ y ∈ ps.zip us, scp.names.lookup y.1 = some .local ∨ (scp.names.lookup y.1 = some .cell ∧ ((cellsFrom (s.heap.objs.size + 1) scp.names []).lookup y.1).isSome = true) := by
    rintro ⟨n, v⟩ hy
    exact (S.par n (List.of_mem_zip hy).1).imp id fun q => ⟨q, PySem.W.cellsFrom_some _ _ _ (.inl q)⟩
  refine codeAny_call_function room.depth (inH _ _ lk) rfl S.co S.gen rfl (PySem.W.codeRec_of inH hcd) (bnd _ _ _ _ ?_)
  refine wpAny_newFunctionEnv_cells S.kind kinds fun en hen s1 xx => ?_
  subst hen
  refine ⟨noL.keeps xx.toInCall.keep, codeAny_func ?_⟩
  obtain ⟨t, hder, hread⟩ := hbody cdv A outer s H vs Q E hot (room.deeper _) prm
  have I0 := L2H.inv_startH (CX := L2N.CX P w) (E := E) S pin env hlen rel xx
  refine wpAny_mono (hder.run [] s1 (L2.start N vs) H _ I0 hread) (fun fl s' hs => ?_) fun e s' hs => hs
  have ends : ∀ {σ' : St} {H' : Hp} {v : V} {u : Value}, Inv (L2H.cxH (L2N.CX P w) P w K mg base N qul scp f cdv A outer s H E p) [] σ' H' s' → RelV v u → Q v H' → CE outer P w H s Q u s' :=
    fun {σ' H' v u} J rv q => ⟨v, H', J.os, J.bare, J.base, J.hok, rv, q⟩
  cases fl with
  | ret u => obtain ⟨v, σ', H', J, rv, q⟩ := hs; exact ends J rv q
  | next => obtain ⟨σ', H', J, q⟩ := hs; exact ends (v := V.non) (u := Value.none) J rfl q
  | brk => obtain ⟨_, _, _, q⟩ := hs; exact q.elim
  | cont => obtain ⟨_, _, _, q⟩ := hs; exact q.elim
/-- as called from a context that holds p -/
theorem FnQ.cal {X : Cx} {p : Addr × Obj} {k : Nat} {f : Addr} {fd : FuncData} {ps : List Str} {sp : Sp} (F : FnQ p X.prog X.w X.K X.mg X.base k f fd ps sp) (hr : L2H.RoomH k X.A) (hot : L2H.Hot1 X.A p) (hp : p ∈ X.pn) (hb : Binds X.K fd ps []) (kp : PySem.W.keepIn X.K (.ref f) = true) : Cal X f sp := by
  refine ⟨kp, fun pins σ H s Q us vs E hx I r h => ?_⟩
  have hl : us.length = ps.length := by rw [← r.length]; exact F.len _ _ _ _ h
  have b := hb s us I.kIn (by rw [List.append_nil]; exact hl)
  rw [List.append_nil] at b
  have P1 := I.pin p (List.mem_append_left _ hp)
  have hpin : L2H.PinOk X.stack H s p := ⟨P1.1, P1.2.1, fun hm => (List.mem_cons.mp (I.stkSub p.1 hm)).elim P1.2.2.1 P1.2.2.2.1, P1.2.2.2.2⟩
  refine wpAny_call (codeAny_mono (F.run X.A X.stack s H ⟨us, []⟩ us vs Q E hr hot hpin I.env0 b r h) fun rr s' hq => ?_)
  cases rr with
  | error e => exact hx pins H s e s' I hq
  | ok fl =>
    cases fl with
    | ret u => exact I.after hq
    | next => exact hq.elim
    | brk => exact hq.elim
    | cont => exact hq.elim
/-- all in one -/
structure FnRQ (p : Addr × Obj) (P : Program) (w : World) (K : PySem.W.Frag) (mg : Str → Option Value) (base : Heap) (k : Nat) (f : Addr) (sp : Sp) : Prop where
  ex : ∃ fd ps, FnQ p P w K mg base k f fd ps sp ∧ Binds K fd ps []
  kp : PySem.W.keepIn K (.ref f) = true
theorem FnRQ.cal {X : Cx} {p : Addr × Obj} {k : Nat} {f : Addr} {sp : Sp} (F : FnRQ p X.prog X.w X.K X.mg X.base k f sp) (hr : L2H.RoomH k X.A) (hot : L2H.Hot1 X.A p) (hp : p ∈ X.pn) : Cal X f sp := by
  obtain ⟨fd, ps, q, b⟩ := F.ex
  exact q.cal hr hot hp b F.kp
theorem fnRQ {p : Addr × Obj} {P : Program} {w : World} {K : PySem.W.Frag} {mg : Str → Option Value} {base : Heap} {g : Tg} {x qual : Str} {params : Arguments} {body : List Stmt} {scope : Scope} {f : Addr} {N ps : List Str} {k : Nat} {mb : Sm}
    (F : ∃ fd, FunD K x qual params body scope [] [] f fd) (S : FnScope N ps scope)
    (hb : ∀ (kV doc pm : Value) (an : Option Addr) (cdv ct : Value) (us : List Value), us.length = ps.length → bindArgs (PySem.W.fnOf x qual params body scope .none kV doc pm an cdv ct) ⟨us, []⟩ = pure (ps.zip us))
    (hbody : ∀ (cdv : Value) (A : Around) (outer : List Env) (s : Shared) (H : Hp) (E : XK), L2H.Hot1 A p → L2H.RoomH k (A.deeper (envOfC qual scope s.heap.objs.size f cdv)) →
      FSs (L2H.cxH (L2N.CX P w) P w K mg base N qual scope f cdv A outer s H E p) g (fun c d _ H => E c d H) body mb) : FnRQ p P w K mg base (k + 1) f (spF K g (mFun ps.length N.length mb)) := by
  obtain ⟨fd, F⟩ := F
  exact ⟨⟨fd, ps, fnQ_of F S (fun vs H Q E h => spF_len h) fun cdv A outer s H vs Q E hot hr h => ⟨_, hbody cdv A outer s H E hot hr, fun_start h⟩, F.bindsN hb⟩, F.kp⟩
theorem hot_suite {X : Cx} {a : Addr} {oe : Obj} {pn : List (Addr × Obj)} {c : Value} {d : Option Addr} (z : L2N.Zn c d oe) (v : ∃ vs, oe.data = .fields vs) : L2H.Hot1 (X.suite a ((a, oe) :: pn)).A (a, oe) := by
  obtain ⟨vs, e⟩ := v
  exact ⟨rfl, vs, e, z.2.2 vs e⟩
section
variable {X : Cx} {g : Tg} {W : WX} {pos p p2 q2 : Pos} {x y : Str} {is : List Nat}
theorem pe_no {e : Expr} {t : TE} (h : ∀ σ H Q, ¬ t σ H Q) : PE X e t := ⟨fun pins s σ H Q I q => (h σ H Q q).elim⟩
/-- isinstance(e, T), T an own class -/
theorem fe_ix1 {a0 : Addr} {oe : Obj} {i c cy : Nat} {tab : List (Nat × Bool)} (hp : (a0, oe) ∈ X.pn) (hz : L2N.Zn (.ref (g.ca c)) none oe) (hf : ∃ vs, oe.data = .fields vs) (V : visI X.env.scope X.N is = true) (G : GlN X "isinstance") (hm : X.mg "isinstance" = none) (G2 : GlN X y) (hm2 : X.mg y = some (.ref (g.ca cy)))
    (C : ∀ b, sbOf tab c = some b → ExcC X.K (g.ca c)) (htab : ∀ b, sbOf tab c = some b → PySem.W.kitOne X.K (.ref (g.ca c)) (.ref (g.ca cy)) = some b)
    (hi : is.contains i = true := by rfl) (hN : X.N[i]? = some x := by rfl)
    (q0 : starEach [.Name x p2, .Name y q2] X.env = (false, eval (.Name x p2) X.env) :: starEach [.Name y q2] X.env := by rfl) (q1 : starEach [.Name y q2] X.env = (false, eval (.Name y q2) X.env) :: starEach [] X.env := by rfl) (q3 : (backTo pos (starEach [.Name y q2] X.env)).any (·.1) = false := by rfl) :
    FE X g W (.Call (.Name "isinstance" p) [.Name x p2, .Name y q2] [] pos) (eIsE a0 i c tab) := by
  obtain ⟨v1, v2, v3⟩ := vis_of V hi hN
  cases z : sbOf tab c with
  | none =>
    refine pe_no ?_
    rintro σ H Q ⟨ρ, env, G, R, E, h⟩
    unfold eIsE at h
    split at h
    · split at h
      · rw [z] at h; exact h.elim
      · exact h.elim
    · exact h.elim
  | some b => exact fe_isE hp (C b z) hz.zc hf hN v1 G.gl hm (pe_glob (v := .ref (g.ca cy)) G2.gl hm2 rfl G2.nd) (fun w r => r) htab v2 v3 q0 q1 q3
/-- isinstance(e, ValueError) -/
theorem fe_ix2 {a0 : Addr} {oe : Obj} {i c : Nat} {tab : List (Nat × Bool)} (hp : (a0, oe) ∈ X.pn) (hz : L2N.Zn (.ref (g.ca c)) none oe) (hf : ∃ vs, oe.data = .fields vs) (V : visI X.env.scope X.N is = true) (G : GlN X "isinstance") (hm : X.mg "isinstance" = none) (G2 : GlN X "ValueError") (hm2 : X.mg "ValueError" = none)
    (C : ∀ b, sbOf tab c = some b → ExcC X.K (g.ca c)) (htab : ∀ b, sbOf tab c = some b → PySem.W.kitOne X.K (.ref (g.ca c)) (.type "ValueError") = some b)
    (hi : is.contains i = true := by rfl) (hN : X.N[i]? = some x := by rfl)
    (q0 : starEach [.Name x p2, .Name "ValueError" q2] X.env = (false, eval (.Name x p2) X.env) :: starEach [.Name "ValueError" q2] X.env := by rfl) (q1 : starEach [.Name "ValueError" q2] X.env = (false, eval (.Name "ValueError" q2) X.env) :: starEach [] X.env := by rfl) (q3 : (backTo pos (starEach [.Name "ValueError" q2] X.env)).any (·.1) = false := by rfl) :
    FE X g W (.Call (.Name "isinstance" p) [.Name x p2, .Name "ValueError" q2] [] pos) (eIsE a0 i c tab) := by
  obtain ⟨v1, v2, v3⟩ := vis_of V hi hN
  cases z : sbOf tab c with
  | none =>
    refine pe_no ?_
    rintro σ H Q ⟨ρ, env, G, R, E, h⟩
    unfold eIsE at h
    split at h
    · split at h
      · rw [z] at h; exact h.elim
      · exact h.elim
    · exact h.elim
  | some b =>
    exact fe_isE hp (C b z) hz.zc hf hN v1 G.gl hm (v := .ty "ValueError") ⟨fun _ _ _ H _ I h => ld_blt I G2.gl hm2 bt_ValueError ⟨.ty "ValueError", H, I, rfl, h⟩ G2.nn G2.nd⟩ (fun w r => r) htab v2 v3 q0 q1 q3
end
/-- in a def's body -/
theorem takesD {P : Program} {w : World} {K : PySem.W.Frag} {mg : Str → Option Value} {base : Heap} {N : List Str} {q : Str} {sc : Scope} {f : Addr} {cdv : Value} {A : Around} {outer : List Env} {s : Shared} {H : Hp} {E : XK} :
    L2N.Takes (cxOf (L2N.CX P w) P w K mg base N q sc f cdv A outer s H E) (fun c d _ H => E c d H) := L2N.takes_of rfl rfl rfl rfl
theorem passD {P : Program} {w : World} {K : PySem.W.Frag} {mg : Str → Option Value} {base : Heap} {N : List Str} {q : Str} {sc : Scope} {f : Addr} {cdv : Value} {A : Around} {outer : List Env} {s : Shared} {H : Hp} {E : XK} :
    PassesOwn (model (cxOf (L2N.CX P w) P w K mg base N q sc f cdv A outer s H E).prog (cxOf (L2N.CX P w) P w K mg base N q sc f cdv A outer s H E).w) (cxOf (L2N.CX P w) P w K mg base N q sc f cdv A outer s H E).A (cxOf (L2N.CX P w) P w K mg base N q sc f cdv A outer s H E).env (cxOf (L2N.CX P w) P w K mg base N q sc f cdv A outer s H E).xe := L2.passes_of rfl
theorem takesH {P : Program} {w : World} {K : PySem.W.Frag} {mg : Str → Option Value} {base : Heap} {N : List Str} {q : Str} {sc : Scope} {f : Addr} {cdv : Value} {A : Around} {outer : List Env} {s : Shared} {H : Hp} {E : XK} {p : Addr × Obj} :
    L2N.Takes (L2H.cxH (L2N.CX P w) P w K mg base N q sc f cdv A outer s H E p) (fun c d _ H => E c d H) := L2N.takes_of rfl rfl rfl rfl
theorem roomS {X : Cx} {a : Addr} {pn : List (Addr × Obj)} {k : Nat} (hr : Room k X.A) : L2H.RoomH k (X.suite a pn).A := ⟨(L2H.roomH_of hr).dp, (L2H.roomH_of hr).un⟩
def fxEq : Fx → Fx → Bool
  | .exk x, .exk y => decide (x = y)
  | .isi x y b, .isi x' y' b' => decide (x = x') && (decide (y = y') && (b == b'))
  | .isv x b, .isv x' b' => decide (x = x') && (b == b')
  | _, _ => false
theorem fxEq_ok {f q : Fx} (h : fxEq f q = true) : f = q := by
  unfold fxEq at h
  split at h
  · rw [of_decide_eq_true h]
  · simp only [Bool.and_eq_true, decide_eq_true_eq, beq_iff_eq] at h
    rw [h.1, h.2.1, h.2.2]
  · simp only [Bool.and_eq_true, decide_eq_true_eq, beq_iff_eq] at h
    rw [h.1, h.2]
  · cases h
theorem fxSub {l L : List Fx} (h : (l.all fun f => L.any fun q => fxEq f q) = true) : ∀ f ∈ l, f ∈ L := fun f hf => by
  obtain ⟨q, hq, e⟩ := List.any_eq_true.mp (List.all_eq_true.mp h f hf)
  rw [fxEq_ok e]
  exact hq
/-- the facts of the classes in a table -/
def exFx (cl : List Str) (l : List (Nat × Bool)) : List Fx := l.map fun p => Fx.exk (nmOf cl p.1)
def isFx (cl : List Str) (cy : Nat) (l : List (Nat × Bool)) : List Fx := l.map fun p => Fx.isi (nmOf cl p.1) (nmOf cl cy) p.2
def ivFx (cl : List Str) (l : List (Nat × Bool)) : List Fx := l.map fun p => Fx.isv (nmOf cl p.1) p.2
section
variable {fa : List He.Fa} {fn : List He.DefD} {fx : List Fx} {K : PySem.W.Frag} {mg : Str → Option Value} (T : Txt fa fn fx K mg) {cl fl : List Str} {l : List (Nat × Bool)} {c cy : Nat}
include T
theorem ex_ok (h : ∀ f ∈ exFx cl l, f ∈ fx) : ∀ b, sbOf l c = some b → ExcC K ((tgOf K cl fl).ca c) := fun b e => excCB_ok (T.more _ (h _ (List.mem_map.mpr ⟨_, lookup_memN e, rfl⟩)))
theorem is_ok (h : ∀ f ∈ isFx cl cy l, f ∈ fx) : ∀ b, sbOf l c = some b → PySem.W.kitOne K (.ref ((tgOf K cl fl).ca c)) (.ref ((tgOf K cl fl).ca cy)) = some b := fun b e => of_decide_eq_true (T.more _ (h _ (List.mem_map.mpr ⟨_, lookup_memN e, rfl⟩)))
theorem iv_ok (h : ∀ f ∈ ivFx cl l, f ∈ fx) : ∀ b, sbOf l c = some b → PySem.W.kitOne K (.ref ((tgOf K cl fl).ca c)) (.type "ValueError") = some b := fun b e => of_decide_eq_true (T.more _ (h _ (List.mem_map.mpr ⟨_, lookup_memN e, rfl⟩)))
theorem Txt.dfn {d : He.DefD} (i : Nat) (h : fn[i]? = some d) : ∃ fd, FunD K d.name d.qual d.params d.body d.scope (d.dvs K) (d.kws K) (He.fAd K d.at_) fd := T.defs d (List.mem_of_getElem? h)
end
end Mi
/-! F, part 11: a def that is asked of an exception answers alike wherever the exception stands. -/
namespace Mi
open PySem PySem.Spec PyProof.Rows L2
theorem huH64 {k : Nat} {A : Around} (hr : L2H.RoomH k A) : A.units + 64 < cLine := by have := hr.un; omega
theorem huH1 {k : Nat} {A : Around} (hr : L2H.RoomH k A) : A.units + 1 < cLine := by have := hr.un; omega
/-- the slots: the exception, one name more -/
def xE (a : Addr) (y : Option D) : Ev := [some (.exc a), y]
def SimE (a : Addr) {α : Type} (m m0 : Ev → M α) : Prop := ∀ y G, m (xE a y) G = m0 (xE 0 y) G
inductive Rx where
  | nx (y : Option D) (G : Gh) | rt (d : D) (G : Gh) | er (c : Nat) (y : Option D) (G : Gh) | no
def Rx.at (a : Addr) : Rx → Ro
  | .nx y G => .nx (xE a y) G
  | .rt d G => .rt d G
  | .er c y G => .er c (xE a y) G
  | .no => .no
def SimS (a : Addr) (s s0 : Sm) : Prop := ∀ y G, ∃ r : Rx, s (xE a y) G = r.at a ∧ s0 (xE 0 y) G = r.at 0
section
variable {a : Addr} {m m0 n n0 : Ev → M D} {t t0 u u0 : Ev → M Bool} {l l0 : Ev → M (List D)} {s s0 r r0 : Sm}
theorem sim_v : SimE a (eVar 1) (eVar 1) := fun y G => rfl
theorem sim_c {d : D} : SimE a (eC d) (eC d) := fun y G => rfl
theorem sim_is {c : Nat} {tab : List (Nat × Bool)} : SimE a (eIsE a 0 c tab) (eIsE 0 0 c tab) := fun y G => by
  have k : ∀ b : Addr, eIsE b 0 c tab (xE b y) G = match sbOf tab c with
    | some b => .ok (.bl b) G
    | none => .no := fun b => by
    unfold eIsE xE
    cases sbOf tab c <;> simp
  rw [k a, k 0]
theorem sim_op {f : O2} (h : SimE a m m0) (k : SimE a n n0) : SimE a (eOp f m n) (eOp f m0 n0) := fun y G => by
  unfold eOp
  rw [h y G]
  cases m0 (xE 0 y) G with
  | ok d G1 => show Rs.bind (n (xE a y) G1) _ = _; rw [k y G1]; rfl
  | er c G1 => rfl
  | no => rfl
theorem sim_nil : SimE a aNil aNil := fun y G => rfl
theorem sim_cons (h : SimE a m m0) (k : SimE a l l0) : SimE a (aCons m l) (aCons m0 l0) := fun y G => by
  unfold aCons
  rw [h y G]
  cases m0 (xE 0 y) G with
  | ok d G1 => show Rs.bind (l (xE a y) G1) _ = _; rw [k y G1]; rfl
  | er c G1 => rfl
  | no => rfl
theorem sim_lst (k : SimE a l l0) : SimE a (eLst l) (eLst l0) := fun y G => by
  unfold eLst
  rw [k y G]
theorem sim_b {f : O1} (k : SimE a l l0) : SimE a (eB f l) (eB f l0) := fun y G => by
  unfold eB
  rw [k y G]
theorem sim_mt {f : OM} (h : SimE a m m0) (k : SimE a l l0) : SimE a (eMt f m l) (eMt f m0 l0) := fun y G => by
  unfold eMt
  rw [h y G]
  cases m0 (xE 0 y) G with
  | ok d G1 =>
    show (if isLst d G1 = true then Rs.bind (l (xE a y) G1) _ else _) = _
    rw [k y G1]; rfl
  | er c G1 => rfl
  | no => rfl
theorem sim_tru (h : SimE a m m0) : SimE a (tru m) (tru m0) := fun y G => by
  unfold tru
  rw [h y G]
theorem sim_asB (h : SimE a m m0) : SimE a (asB m) (asB m0) := fun y G => by
  unfold asB
  rw [h y G]
theorem sim_not (h : SimE a t t0) : SimE a (bNot t) (bNot t0) := fun y G => by
  unfold bNot
  rw [h y G]
theorem sim_and (h : SimE a t t0) (k : SimE a u u0) : SimE a (bAnd t u) (bAnd t0 u0) := fun y G => by
  unfold bAnd
  rw [h y G]
  cases t0 (xE 0 y) G with
  | ok d G1 =>
    show (if d = true then u (xE a y) G1 else _) = _
    rw [k y G1]; rfl
  | er c G1 => rfl
  | no => rfl
theorem sim_nx : SimS a sNx sNx := fun y G => ⟨.nx y G, rfl, rfl⟩
theorem sim_drop (h : SimE a m m0) : SimS a (sDrop m) (sDrop m0) := fun y G => by
  unfold sDrop
  rw [h y G]
  cases m0 (xE 0 y) G with
  | ok d G1 => exact ⟨.nx y G1, rfl, rfl⟩
  | er c G1 => exact ⟨.er c y G1, rfl, rfl⟩
  | no => exact ⟨.no, rfl, rfl⟩
theorem sim_ret (h : SimE a m m0) : SimS a (sRet m) (sRet m0) := fun y G => by
  unfold sRet
  rw [h y G]
  cases m0 (xE 0 y) G with
  | ok d G1 => exact ⟨.rt d G1, rfl, rfl⟩
  | er c G1 => exact ⟨.er c y G1, rfl, rfl⟩
  | no => exact ⟨.no, rfl, rfl⟩
theorem sim_asg (h : SimE a m m0) : SimS a (sAsg (gmN 1) m) (sAsg (gmN 1) m0) := fun y G => by
  unfold sAsg
  rw [h y G]
  cases m0 (xE 0 y) G with
  | ok d G1 => exact ⟨.nx (some d) G1, rfl, rfl⟩
  | er c G1 => exact ⟨.er c y G1, rfl, rfl⟩
  | no => exact ⟨.no, rfl, rfl⟩
theorem sim_if (h : SimE a t t0) (k : SimS a s s0) (j : SimS a r r0) : SimS a (sIf t s r) (sIf t0 s0 r0) := fun y G => by
  unfold sIf
  rw [h y G]
  cases t0 (xE 0 y) G with
  | ok b G1 =>
    cases b with
    | true => exact k y G1
    | false => exact j y G1
  | er c G1 => exact ⟨.er c y G1, rfl, rfl⟩
  | no => exact ⟨.no, rfl, rfl⟩
theorem sim_seq (k : SimS a s s0) (j : SimS a r r0) : SimS a (sSeq s r) (sSeq s0 r0) := fun y G => by
  unfold sSeq
  obtain ⟨q, e1, e2⟩ := k y G
  rw [e1, e2]
  cases q with
  | nx y1 G1 => exact j y1 G1
  | rt d G1 => exact ⟨.rt d G1, rfl, rfl⟩
  | er c y1 G1 => exact ⟨.er c y1 G1, rfl, rfl⟩
  | no => exact ⟨.no, rfl, rfl⟩
theorem sim_fun (h : SimS a s s0) (G : Gh) : mFun 1 2 s [.exc a] G = mFun 1 2 s0 [.exc 0] G := by
  obtain ⟨q, e1, e2⟩ := h none G
  show (match s (xE a none) G with
    | .nx _ G' => Rs.ok D.non G'
    | .rt d G' => .ok d G'
    | .er c _ G' => .er c G'
    | _ => .no) = (match s0 (xE 0 none) G with
    | .nx _ G' => Rs.ok D.non G'
    | .rt d G' => .ok d G'
    | .er c _ G' => .er c G'
    | _ => .no)
  rw [e1, e2]
  cases q <;> rfl
end
end Mi
/-! P, part 1: what a mirror's run must reach (weakest preconditions), one equation a word. -/
namespace Mi
open PySem PySem.Spec PyProof.Rows L2

def Rs.sat {α : Type} (r : Rs α) (Q : α → Gh → Prop) (E : Nat → Gh → Prop) : Prop := match r with
  | .ok a G => Q a G
  | .er c G => E c G
  | .no => False
structure Pq where
  nx : Ev → Gh → Prop
  rt : D → Gh → Prop
  er : Nat → Ev → Gh → Prop
  bk : Ev → Gh → Prop
  ct : Ev → Gh → Prop
def Ro.sat (r : Ro) (q : Pq) : Prop := match r with
  | .nx e G => q.nx e G
  | .rt d G => q.rt d G
  | .er c e G => q.er c e G
  | .bk e G => q.bk e G
  | .ct e G => q.ct e G
  | .no => False
theorem Rs.sat_mono {α : Type} {r : Rs α} {Q Q' : α → Gh → Prop} {E E' : Nat → Gh → Prop} (h : r.sat Q E) (hQ : ∀ a G, Q a G → Q' a G) (hE : ∀ c G, E c G → E' c G) : r.sat Q' E' := by
  cases r with
  | ok a G => exact hQ a G h
  | er c G => exact hE c G h
  | no => exact h
theorem Ro.sat_mono {r : Ro} {q q' : Pq} (h : r.sat q) (h1 : ∀ e G, q.nx e G → q'.nx e G) (h2 : ∀ d G, q.rt d G → q'.rt d G) (h3 : ∀ c e G, q.er c e G → q'.er c e G) (h4 : ∀ e G, q.bk e G → q'.bk e G) (h5 : ∀ e G, q.ct e G → q'.ct e G) : r.sat q' := by
  cases r with
  | nx e G => exact h1 e G h
  | rt e G => exact h2 e G h
  | er c e G => exact h3 c e G h
  | bk e G => exact h4 e G h
  | ct e G => exact h5 e G h
  | no => exact h
/-- no error -/
abbrev nE : Nat → Gh → Prop := fun _ _ => False
theorem Rs.ok_of {α : Type} {r : Rs α} {Q : α → Gh → Prop} (h : r.sat Q nE) : ∃ a G, r = .ok a G ∧ Q a G := by
  cases r with
  | ok a G => exact ⟨a, G, rfl, h⟩
  | er c G => exact h.elim
  | no => exact h.elim
section
variable {α : Type} {Q : D → Gh → Prop} {Qb : Bool → Gh → Prop} {Ql : List D → Gh → Prop} {Qi : Option Int → Gh → Prop} {E : Nat → Gh → Prop} {env : Ev} {G : Gh} {ma mb mc : Ev → M D} {n n' : Ev → M Bool} {ms : Ev → M (List D)} {q : Pq} {s s' : Sm}
theorem w_ok {a : α} {Q : α → Gh → Prop} : (Rs.ok a G).sat Q E ↔ Q a G := Iff.rfl
theorem w_bind {β : Type} {r : Rs β} {f : β → M α} {Q : α → Gh → Prop} : (r.bind f).sat Q E ↔ r.sat (fun a G1 => (f a G1).sat Q E) E := by cases r <;> exact Iff.rfl
theorem w_c {d : D} : (eC d env G).sat Q E ↔ Q d G := Iff.rfl
/-- the value in a slot -/
def slotQ (o : Option (Option D)) (Q : D → Prop) : Prop := match o with
  | some (some d) => Q d
  | _ => False
theorem slotQ_some {d : D} {Q : D → Prop} : slotQ (some (some d)) Q ↔ Q d := Iff.rfl
theorem w_v {i : Nat} : (eVar i env G).sat Q E ↔ slotQ env[i]? fun d => Q d G := by
  unfold eVar slotQ
  cases env[i]? with
  | none => exact Iff.rfl
  | some o => cases o <;> exact Iff.rfl
/-- an operation's answer -/
def opQ (o : Option (D × Gh)) (Q : D → Gh → Prop) : Prop := match o with
  | some (d, G) => Q d G
  | none => False
theorem opQ_some {d : D} : opQ (some (d, G)) Q ↔ Q d G := Iff.rfl
theorem w_lift {o : Option (D × Gh)} : (lift o).sat Q E ↔ opQ o Q := by cases o <;> exact Iff.rfl
theorem w_op {f : O2} : (eOp f ma mb env G).sat Q E ↔ (ma env G).sat (fun x G1 => (mb env G1).sat (fun y G2 => opQ (f x y G2) Q) E) E := by
  unfold eOp
  rw [w_bind]
  cases ma env G with
  | ok x G1 =>
    rw [w_ok, w_ok, w_bind]
    cases mb env G1 with
    | ok y G2 => exact w_lift
    | _ => exact Iff.rfl
  | _ => exact Iff.rfl
theorem w_un {f : D → Gh → Option (D × Gh)} : (eUn f ma env G).sat Q E ↔ (ma env G).sat (fun x G1 => opQ (f x G1) Q) E := by
  unfold eUn
  rw [w_bind]
  cases ma env G with
  | ok x G1 => exact w_lift
  | _ => exact Iff.rfl
theorem w_b {f : O1} : (eB f ms env G).sat Q E ↔ (ms env G).sat (fun ds G1 => opQ (f ds G1) Q) E := by
  unfold eB
  rw [w_bind]
  cases ms env G with
  | ok x G1 => exact w_lift
  | _ => exact Iff.rfl
theorem w_nil : (aNil env G).sat Ql E ↔ Ql [] G := Iff.rfl
theorem w_cons : (aCons ma ms env G).sat Ql E ↔ (ma env G).sat (fun d G1 => (ms env G1).sat (fun ds G2 => Ql (d :: ds) G2) E) E := by
  unfold aCons
  rw [w_bind]
  cases ma env G with
  | ok x G1 =>
    rw [w_ok, w_ok, w_bind]
    cases ms env G1 <;> exact Iff.rfl
  | _ => exact Iff.rfl
theorem w_call {m : List D → M D} : (eCall m ms env G).sat Q E ↔ (ms env G).sat (fun ds G1 => (m ds G1).sat Q E) E := w_bind
theorem w_tup : (eTup ms env G).sat Q E ↔ (ms env G).sat (fun ds G1 => ds.length ≤ sizeLine ∧ Q (.tup ds) G1) E := by
  unfold eTup
  rw [w_bind]
  cases ms env G with
  | ok ds G1 =>
    show Rs.sat (if ds.length ≤ sizeLine then Rs.ok _ G1 else .no) _ _ ↔ _
    split
    · rename_i h; exact ⟨fun k => ⟨h, k⟩, fun k => k.2⟩
    · rename_i h; exact ⟨fun k => k.elim, fun k => h k.1⟩
  | _ => exact Iff.rfl
theorem w_lst : (eLst ms env G).sat Q E ↔ (ms env G).sat (fun ds G1 => ds.length ≤ sizeLine ∧ Q (.ref G1.n) (G1.push (.lst ds))) E := by
  unfold eLst
  rw [w_bind]
  cases ms env G with
  | ok ds G1 =>
    show Rs.sat (if ds.length ≤ sizeLine then Rs.ok _ _ else .no) _ _ ↔ _
    split
    · rename_i h; exact ⟨fun k => ⟨h, k⟩, fun k => k.2⟩
    · rename_i h; exact ⟨fun k => k.elim, fun k => h k.1⟩
  | _ => exact Iff.rfl
theorem w_dct0 : (eDct0 env G).sat Q E ↔ Q (.ref G.n) (G.push (.dct [])) := Iff.rfl
/-- a value that is there -/
def opD (o : Option D) (Q : D → Prop) : Prop := match o with
  | some d => Q d
  | none => False
theorem opD_some {d : D} {Q : D → Prop} : opD (some d) Q ↔ Q d := Iff.rfl
theorem w_fld {na : Nat → Nat → Bool} {f : Nat} : (eFld na f ma env G).sat Q E ↔ (ma env G).sat (fun d G1 => opD (fldO na f d G1) fun v => Q v G1) E := by
  unfold eFld
  rw [w_bind]
  cases ma env G with
  | ok d G1 =>
    rw [w_ok, w_ok]
    cases fldO na f d G1 <;> exact Iff.rfl
  | _ => exact Iff.rfl
/-- the instance at d, of the class c -/
def insQ (G : Gh) (c : Nat) (bad : Option Nat) (d : D) (Q : Prop) : Prop := match d with
  | .ref i => (match G.ob i with
    | .ins c' fs => (c' = c ∧ ∀ f, bad = some f → valD fs f = none) ∧ Q
    | _ => False)
  | _ => False
theorem insQ_of {c : Nat} {i : Nat} {fs : List (Nat × D)} {R : Prop} (h : G.ob i = .ins c fs) : insQ G c none (.ref i) R ↔ R := by
  unfold insQ
  dsimp only
  rw [h]
  exact ⟨fun k => k.2, fun k => ⟨⟨rfl, fun _ e => nomatch e⟩, k⟩⟩
theorem w_meth {c : Nat} {bad : Option Nat} {m : List D → M D} : (eMeth c bad m ma ms env G).sat Q E ↔ (ma env G).sat (fun x G1 => insQ G1 c bad x ((ms env G1).sat (fun ds G2 => (m (x :: ds) G2).sat Q E) E)) E := by
  unfold eMeth
  rw [w_bind]
  cases ma env G with
  | ok x G1 =>
    rw [w_ok, w_ok]
    cases x with
    | ref i =>
      unfold insQ
      dsimp only
      cases G1.ob i with
      | ins c' fs =>
        dsimp only
        split
        · rename_i h
          rw [w_bind]
          exact ⟨fun k => ⟨h, k⟩, fun k => k.2⟩
        · rename_i h
          exact ⟨fun k => k.elim, fun k => h k.1⟩
      | _ => exact Iff.rfl
    | _ => exact Iff.rfl
  | _ => exact Iff.rfl
theorem w_make {c : Nat} {m : List D → M D} : (eMake c m ms env G).sat Q E ↔ (ms env G).sat (fun ds G1 => (m (.ref G1.n :: ds) (G1.push (.ins c []))).sat (fun d G2 => d = .non ∧ Q (.ref G1.n) G2) E) E := by
  unfold eMake
  rw [w_bind]
  cases ms env G with
  | ok ds G1 =>
    rw [w_ok, w_ok, w_bind]
    cases m (.ref G1.n :: ds) (G1.push (.ins c [])) with
    | ok d G2 =>
      rw [w_ok, w_ok]
      cases d with
      | non => exact ⟨fun k => ⟨rfl, k⟩, fun k => k.2⟩
      | _ => exact ⟨fun k => k.elim, fun k => D.noConfusion k.1⟩
    | _ => exact Iff.rfl
  | _ => exact Iff.rfl
theorem w_mt {f : OM} : (eMt f ma ms env G).sat Q E ↔ (ma env G).sat (fun d G1 => isLst d G1 = true ∧ (ms env G1).sat (fun ds G2 => opQ (f d ds G2) Q) E) E := by
  unfold eMt
  rw [w_bind]
  cases ma env G with
  | ok d G1 =>
    show Rs.sat (if isLst d G1 = true then (ms env G1).bind fun ds G2 => lift (f d ds G2) else .no) Q E ↔ _
    split
    · rename_i h
      rw [w_bind]
      refine ⟨fun k => ⟨h, ?_⟩, fun k => ?_⟩
      · cases e : ms env G1 with
        | ok ds G2 => rw [e] at k; exact w_lift.mp k
        | er c G2 => rw [e] at k; exact k
        | no => rw [e] at k; exact k
      · have k := k.2
        cases e : ms env G1 with
        | ok ds G2 => rw [e] at k; exact w_lift.mpr k
        | er c G2 => rw [e] at k; exact k
        | no => rw [e] at k; exact k
    · rename_i h
      exact ⟨fun k => k.elim, fun k => h k.1⟩
  | _ => exact Iff.rfl
/-- the entry of a dict, or the other value -/
def getQ (o : Option (List (Key × D))) (k : Option Key) (z : D) (Q : D → Prop) : Prop := match o, k with
  | some kvs, some k => Q ((valD kvs k).getD z)
  | _, _ => False
theorem getQ_some {kvs : List (Key × D)} {k : Key} {z : D} {Q : D → Prop} : getQ (some kvs) (some k) z Q ↔ Q ((valD kvs k).getD z) := Iff.rfl
theorem w_get2 : (eGet2 ma mb mc env G).sat Q E ↔ (ma env G).sat (fun d G1 => (dctD d G1).isSome = true ∧ (mb env G1).sat (fun y G2 => (mc env G2).sat (fun z G3 => getQ (dctD d G3) (keyD y) z fun v => Q v G3) E) E) E := by
  unfold eGet2
  rw [w_bind]
  cases ma env G with
  | ok d G1 =>
    rw [w_ok, w_ok]
    cases e0 : dctD d G1 with
    | none => exact ⟨fun k => k.elim, fun k => by cases k.1⟩
    | some kvs =>
      dsimp only
      rw [w_bind]
      refine Iff.trans ?_ (and_iff_right rfl).symm
      cases mb env G1 with
      | ok y G2 =>
        rw [w_ok, w_ok, w_bind]
        cases mc env G2 with
        | ok z G3 =>
          rw [w_ok, w_ok]
          unfold getQ
          cases dctD d G3 <;> cases keyD y <;> exact Iff.rfl
        | _ => exact Iff.rfl
      | _ => exact Iff.rfl
  | _ => exact Iff.rfl
/-- a truth that is known -/
def opB (o : Option Bool) (Q : Bool → Prop) : Prop := match o with
  | some b => Q b
  | none => False
theorem opB_some {b : Bool} {Q : Bool → Prop} : opB (some b) Q ↔ Q b := Iff.rfl
theorem w_tru : (tru ma env G).sat Qb E ↔ (ma env G).sat (fun d G1 => opB (truD d G1) fun b => Qb b G1) E := by
  unfold tru
  rw [w_bind]
  cases ma env G with
  | ok d G1 =>
    rw [w_ok, w_ok]
    cases truD d G1 <;> exact Iff.rfl
  | _ => exact Iff.rfl
def blQ (d : D) (Q : Bool → Prop) : Prop := match d with
  | .bl b => Q b
  | _ => False
theorem blQ_bl {b : Bool} {Q : Bool → Prop} : blQ (.bl b) Q ↔ Q b := Iff.rfl
theorem w_asB : (asB ma env G).sat Qb E ↔ (ma env G).sat (fun d G1 => blQ d fun b => Qb b G1) E := by
  unfold asB
  rw [w_bind]
  cases ma env G with
  | ok d G1 => cases d <;> exact Iff.rfl
  | _ => exact Iff.rfl
theorem w_not : (bNot n env G).sat Qb E ↔ (n env G).sat (fun b G1 => Qb (!b) G1) E := w_bind
theorem w_and : (bAnd n n' env G).sat Qb E ↔ (n env G).sat (fun b G1 => if b = true then (n' env G1).sat Qb E else Qb false G1) E := by
  unfold bAnd
  rw [w_bind]
  cases n env G with
  | ok b G1 => cases b <;> exact Iff.rfl
  | _ => exact Iff.rfl
theorem w_or : (bOr n n' env G).sat Qb E ↔ (n env G).sat (fun b G1 => if b = true then Qb true G1 else (n' env G1).sat Qb E) E := by
  unfold bOr
  rw [w_bind]
  cases n env G with
  | ok b G1 => cases b <;> exact Iff.rfl
  | _ => exact Iff.rfl
theorem w_chain {f f' : O2} : (eChain f f' ma mb mc env G).sat Q E ↔ (ma env G).sat (fun x G1 => (mb env G1).sat (fun y G2 => opQ (f x y G2) fun z G3 => blQ z fun b => if b = true then (mc env G3).sat (fun w G4 => opQ (f' y w G4) Q) E else Q (.bl false) G3) E) E := by
  unfold eChain
  rw [w_bind]
  cases ma env G with
  | ok x G1 =>
    rw [w_ok, w_ok, w_bind]
    cases mb env G1 with
    | ok y G2 =>
      rw [w_ok, w_ok, w_bind, w_lift]
      cases f x y G2 with
      | none => exact Iff.rfl
      | some p =>
        obtain ⟨z, G3⟩ := p
        show Rs.sat (match z with
          | .bl true => (mc env G3).bind fun w G4 => lift (f' y w G4)
          | .bl false => .ok (.bl false) G3
          | _ => .no) Q E ↔ blQ z _
        cases z with
        | bl b =>
          cases b with
          | false => exact Iff.rfl
          | true =>
            dsimp only
            rw [w_bind]
            cases mc env G3 with
            | ok w G4 => exact w_lift
            | _ => exact Iff.rfl
        | _ => exact Iff.rfl
    | _ => exact Iff.rfl
  | _ => exact Iff.rfl
theorem w_andV : (eAndV ma mb env G).sat Q E ↔ (ma env G).sat (fun d G1 => opB (truD d G1) fun b => if b = true then (mb env G1).sat Q E else Q d G1) E := by
  unfold eAndV
  rw [w_bind]
  cases ma env G with
  | ok d G1 =>
    rw [w_ok, w_ok]
    cases truD d G1 with
    | none => exact Iff.rfl
    | some b => cases b <;> exact Iff.rfl
  | _ => exact Iff.rfl
theorem w_orV : (eOrV ma mb env G).sat Q E ↔ (ma env G).sat (fun d G1 => opB (truD d G1) fun b => if b = true then Q d G1 else (mb env G1).sat Q E) E := by
  unfold eOrV
  rw [w_bind]
  cases ma env G with
  | ok d G1 =>
    rw [w_ok, w_ok]
    cases truD d G1 with
    | none => exact Iff.rfl
    | some b => cases b <;> exact Iff.rfl
  | _ => exact Iff.rfl
theorem w_notV : (eNotV ma env G).sat Q E ↔ (ma env G).sat (fun d G1 => opB (truD d G1) fun b => Q (.bl (!b)) G1) E := by
  unfold eNotV
  rw [w_bind, w_tru]
  exact Iff.rfl
theorem w_if : (eIf n ma mb env G).sat Q E ↔ (n env G).sat (fun b G1 => if b = true then (ma env G1).sat Q E else (mb env G1).sat Q E) E := by
  unfold eIf
  rw [w_bind]
  cases n env G with
  | ok b G1 => cases b <;> exact Iff.rfl
  | _ => exact Iff.rfl
def tyQ (o : Option Nat) (Q : Nat → Prop) : Prop := match o with
  | some n => Q n
  | none => False
theorem tyQ_some {k : Nat} {Q : Nat → Prop} : tyQ (some k) Q ↔ Q k := Iff.rfl
theorem w_isi {k : Nat} : (eIsi k ma env G).sat Q E ↔ (ma env G).sat (fun d G1 => tyQ (tyD d G1) fun j => Q (.bl (isTy j k)) G1) E := by
  unfold eIsi
  rw [w_bind]
  cases ma env G with
  | ok d G1 =>
    rw [w_ok, w_ok]
    cases tyD d G1 <;> exact Iff.rfl
  | _ => exact Iff.rfl
theorem w_pNone : (pNone env G).sat Qi E ↔ Qi none G := Iff.rfl
def inQ (d : D) (Q : Int → Prop) : Prop := match d with
  | .int i => Q i
  | _ => False
theorem inQ_int {i : Int} {Q : Int → Prop} : inQ (.int i) Q ↔ Q i := Iff.rfl
theorem w_pSome : (pSome ma env G).sat Qi E ↔ (ma env G).sat (fun d G1 => inQ d fun i => Qi (some i) G1) E := by
  unfold pSome
  rw [w_bind]
  cases ma env G with
  | ok d G1 => cases d <;> exact Iff.rfl
  | _ => exact Iff.rfl
theorem w_sl {p p' : Ev → M (Option Int)} : (eSl ma p p' env G).sat Q E ↔ (ma env G).sat (fun x G1 => (p env G1).sat (fun lo G2 => (p' env G2).sat (fun hi G3 => opQ (slD x lo hi G3) Q) E) E) E := by
  unfold eSl
  rw [w_bind]
  cases ma env G with
  | ok x G1 =>
    rw [w_ok, w_ok, w_bind]
    cases p env G1 with
    | ok lo G2 =>
      rw [w_ok, w_ok, w_bind]
      cases p' env G2 with
      | ok hi G3 => exact w_lift
      | _ => exact Iff.rfl
    | _ => exact Iff.rfl
  | _ => exact Iff.rfl

/-! ### statements -/
theorem w_exS {β : Type} {r : Rs β} {f : β → Gh → Ro} : (exS r env f).sat q ↔ r.sat (fun a G1 => (f a G1).sat q) (fun c G1 => q.er c env G1) := by cases r <;> exact Iff.rfl
theorem w_nx : (sNx env G).sat q ↔ q.nx env G := Iff.rfl
theorem w_brk : (sBrk env G).sat q ↔ q.bk env G := Iff.rfl
theorem w_cnt : (sCnt env G).sat q ↔ q.ct env G := Iff.rfl
theorem w_seq : (sSeq s s' env G).sat q ↔ (s env G).sat ⟨fun e G1 => (s' e G1).sat q, q.rt, q.er, q.bk, q.ct⟩ := by
  unfold sSeq
  cases s env G <;> exact Iff.rfl
theorem w_drop : (sDrop ma env G).sat q ↔ (ma env G).sat (fun _ G1 => q.nx env G1) (fun c G1 => q.er c env G1) := w_exS
theorem w_ret : (sRet ma env G).sat q ↔ (ma env G).sat (fun d G1 => q.rt d G1) (fun c G1 => q.er c env G1) := w_exS
theorem w_retN : (sRetN env G).sat q ↔ q.rt .non G := Iff.rfl
theorem w_sif : (sIf n s s' env G).sat q ↔ (n env G).sat (fun b G1 => if b = true then (s env G1).sat q else (s' env G1).sat q) (fun c G1 => q.er c env G1) := by
  unfold sIf
  rw [w_exS]
  cases n env G with
  | ok b G1 => cases b <;> exact Iff.rfl
  | _ => exact Iff.rfl
theorem w_raise {c : Nat} : (sRaise c env G).sat q ↔ q.er c env G := Iff.rfl
theorem w_set {i : Nat} : (sAsg (gmN i) ma env G).sat q ↔ (ma env G).sat (fun d G1 => q.nx (env.set i (some d)) G1) (fun c G1 => q.er c env G1) := by
  unfold sAsg
  rw [w_exS]
  cases ma env G <;> exact Iff.rfl
def evQ (o : Option Ev) (Q : Ev → Prop) : Prop := match o with
  | some e => Q e
  | none => False
theorem evQ_some {e : Ev} {Q : Ev → Prop} : evQ (some e) Q ↔ Q e := Iff.rfl
theorem w_asg {t : Tm} : (sAsg t ma env G).sat q ↔ (ma env G).sat (fun d G1 => evQ (t d G1 env) fun e => q.nx e G1) (fun c G1 => q.er c env G1) := by
  unfold sAsg
  rw [w_exS]
  cases ma env G with
  | ok d G1 =>
    rw [w_ok, w_ok]
    cases t d G1 env <;> exact Iff.rfl
  | _ => exact Iff.rfl
def ghQ (o : Option Gh) (Q : Gh → Prop) : Prop := match o with
  | some G => Q G
  | none => False
theorem ghQ_some {Q : Gh → Prop} : ghQ (some G) Q ↔ Q G := Iff.rfl
theorem w_sfld {na : Nat → Nat → Bool} {f : Nat} : (sFld na f ma mb env G).sat q ↔ (mb env G).sat (fun v G1 => (ma env G1).sat (fun d G2 => ghQ (setFldO na f d v G2) fun G3 => q.nx env G3) (fun c G1 => q.er c env G1)) (fun c G1 => q.er c env G1) := by
  unfold sFld
  rw [w_exS]
  cases mb env G with
  | ok v G1 =>
    rw [w_ok, w_ok, w_exS]
    cases ma env G1 with
    | ok d G2 =>
      rw [w_ok, w_ok]
      cases setFldO na f d v G2 <;> exact Iff.rfl
    | _ => exact Iff.rfl
  | _ => exact Iff.rfl
theorem w_ssub : (sSub ma mb mc env G).sat q ↔ (mc env G).sat (fun v G1 => (ma env G1).sat (fun d G2 => (mb env G2).sat (fun i G3 => ghQ (setO d i v G3) fun G4 => q.nx env G4) (fun c G1 => q.er c env G1)) (fun c G1 => q.er c env G1)) (fun c G1 => q.er c env G1) := by
  unfold sSub
  rw [w_exS]
  cases mc env G with
  | ok v G1 =>
    rw [w_ok, w_ok, w_exS]
    cases ma env G1 with
    | ok d G2 =>
      rw [w_ok, w_ok, w_exS]
      cases mb env G2 with
      | ok i G3 =>
        rw [w_ok, w_ok]
        cases setO d i v G3 <;> exact Iff.rfl
      | _ => exact Iff.rfl
    | _ => exact Iff.rfl
  | _ => exact Iff.rfl
theorem w_saug {i : Nat} {f : O2} : (sAug i f ma env G).sat q ↔ slotQ env[i]? fun w => (ma env G).sat (fun v G1 => opQ (f w v G1) fun z G2 => q.nx (env.set i (some z)) G2) (fun c G1 => q.er c env G1) := by
  unfold sAug slotQ
  cases env[i]? with
  | none => exact Iff.rfl
  | some o =>
    cases o with
    | none => exact Iff.rfl
    | some w =>
      dsimp only
      rw [w_exS]
      cases ma env G with
      | ok v G1 =>
        rw [w_ok, w_ok]
        cases f w v G1 <;> exact Iff.rfl
      | _ => exact Iff.rfl
theorem w_fun {np nn : Nat} {ds : List D} : (mFun np nn s ds G).sat Q E ↔ ds.length = np ∧ (s (ds.map some ++ List.replicate (nn - np) none) G).sat ⟨fun _ G1 => Q .non G1, Q, fun c _ G1 => E c G1, fun _ _ => False, fun _ _ => False⟩ := by
  unfold mFun
  split
  · rename_i h
    constructor
    · intro k
      refine ⟨h, ?_⟩
      revert k
      cases s (ds.map some ++ List.replicate (nn - np) none) G <;> exact id
    · rintro ⟨_, k⟩
      revert k
      cases s (ds.map some ++ List.replicate (nn - np) none) G <;> exact id
  · rename_i h
    exact ⟨fun k => k.elim, fun k => h k.1⟩
/-! ### loops -/
/-- over items that stand still: P i behind i turns -/
theorem loop_sat {it : Im} {t : Tm} {xs : List D} (P : Nat → Ev → Gh → Prop) (hit : ∀ i e G, i ≤ xs.length → P i e G → it.at_ i G = some xs[i]?)
    (turn : ∀ i d e G, xs[i]? = some d → P i e G → evQ (t d G e) fun e1 => (s e1 G).sat ⟨P (i + 1), q.rt, q.er, q.nx, P (i + 1)⟩) (done : ∀ e G, P xs.length e G → q.nx e G) :
    ∀ (n i : Nat) (e : Ev) (G : Gh), n + i = xs.length → P i e G → (loopR it t s n i e G).sat q := by
  intro n
  induction n with
  | zero =>
    intro i e G hn p
    have hi : i = xs.length := by omega
    subst hi
    rw [loopR, hit _ e G (Nat.le_refl _) p, List.getElem?_eq_none (Nat.le_refl _)]
    exact done e G p
  | succ n ih =>
    intro i e G hn p
    have hi : i < xs.length := by omega
    rw [loopR, hit i e G (by omega) p, List.getElem?_eq_getElem hi]
    dsimp only
    have k := turn i xs[i] e G (List.getElem?_eq_getElem hi) p
    cases z : t xs[i] G e with
    | none => rw [z] at k; exact k.elim
    | some e1 =>
      rw [z] at k
      have k : (s e1 G).sat ⟨P (i + 1), q.rt, q.er, q.nx, P (i + 1)⟩ := k
      dsimp only
      cases z2 : s e1 G with
      | nx e2 G2 => rw [z2] at k; exact ih (i + 1) e2 G2 (by omega) k
      | ct e2 G2 => rw [z2] at k; exact ih (i + 1) e2 G2 (by omega) k
      | bk e2 G2 => rw [z2] at k; exact k
      | rt d G2 => rw [z2] at k; exact k
      | er c e2 G2 => rw [z2] at k; exact k
      | no => rw [z2] at k; exact k.elim
theorem w_for {mi : Ev → M Im} {t : Tm} : (sFor mi t s env G).sat q ↔ (mi env G).sat (fun it G1 => (loopR it t s it.n 0 env G1).sat q) (fun c G1 => q.er c env G1) := w_exS
def imQ (o : Option Im) (Q : Im → Prop) : Prop := match o with
  | some it => Q it
  | none => False
theorem w_iseq {Qm : Im → Gh → Prop} : (iSeq ma env G).sat Qm E ↔ (ma env G).sat (fun d G1 => imQ (seqI d G1) fun it => Qm it G1) E := by
  unfold iSeq
  rw [w_bind]
  cases ma env G with
  | ok d G1 =>
    show Rs.sat (match seqI d G1 with | some it => Rs.ok it G1 | none => .no) _ _ ↔ imQ (seqI d G1) _
    cases seqI d G1 <;> exact Iff.rfl
  | _ => exact Iff.rfl
theorem w_irng1 {Qm : Im → Gh → Prop} : (iRng1' ms env G).sat Qm E ↔ (ms env G).sat (fun ds G1 => imQ (rng1 ds) fun it => Qm it G1) E := by
  unfold iRng1'
  rw [w_bind]
  cases ms env G with
  | ok d G1 =>
    show Rs.sat (match rng1 d with | some it => Rs.ok it G1 | none => .no) _ _ ↔ imQ (rng1 d) _
    cases rng1 d <;> exact Iff.rfl
  | _ => exact Iff.rfl
theorem w_irng2 {Qm : Im → Gh → Prop} : (iRng2' ms env G).sat Qm E ↔ (ms env G).sat (fun ds G1 => imQ (rng2 ds) fun it => Qm it G1) E := by
  unfold iRng2'
  rw [w_bind]
  cases ms env G with
  | ok d G1 =>
    show Rs.sat (match rng2 d with | some it => Rs.ok it G1 | none => .no) _ _ ↔ imQ (rng2 d) _
    cases rng2 d <;> exact Iff.rfl
  | _ => exact Iff.rfl
/-- a range's items -/
def rngL (i : Int) (n : Nat) : List D := (List.range n).map fun (k : Nat) => D.int (i + k)
theorem rngL_len {i : Int} {n : Nat} : (rngL i n).length = n := by unfold rngL; simp
theorem rngL_at {i : Int} {n k : Nat} : (rngL i n)[k]? = if k < n then some (.int (i + k)) else none := by
  unfold rngL
  rw [List.getElem?_map]
  split
  · rename_i h
    rw [List.getElem?_range h]; rfl
  · rename_i h
    rw [List.getElem?_eq_none (by simpa using h)]; rfl
structure RB (i j : Int) : Prop where
  h : -1000000000 ≤ i ∧ i ≤ 1000000000 ∧ -1000000000 ≤ j ∧ j ≤ 1000000000
theorem RB.big {i j : Int} (b : RB i j) : -(2 ^ 62) ≤ i ∧ i < 2 ^ 62 ∧ -(2 ^ 62) ≤ j ∧ j < 2 ^ 62 := by
  have h := b.h
  have e : (2 : Int) ^ 62 = 4611686018427387904 := by decide +kernel
  rw [e]; omega
theorem rng_sat {i j : Int} {t : Tm} (hb : RB i j) (P : Nat → Ev → Gh → Prop) (h0 : P 0 env G)
    (turn : ∀ (k : Nat) e G, k < (j - i).toNat → P k e G → evQ (t (.int (i + k)) G e) fun e1 => (s e1 G).sat ⟨P (k + 1), q.rt, q.er, q.nx, P (k + 1)⟩) (done : ∀ e G, P (j - i).toNat e G → q.nx e G) :
    imQ (rngI i j) fun it => (loopR it t s it.n 0 env G).sat q := by
  unfold rngI
  rw [if_pos hb.big]
  show Ro.sat (loopR _ t s (j - i).toNat 0 env G) q
  refine loop_sat (xs := rngL i (j - i).toNat) P (fun k e G _ _ => by rw [rngL_at]) (fun k d e G hd p => ?_) (fun e G p => done e G (by rw [rngL_len] at p; exact p)) _ 0 env G (by rw [rngL_len]; rfl) h0
  rw [rngL_at] at hd
  split at hd
  · rename_i h
    cases hd
    exact turn k e G h p
  · cases hd
/-- a list that stands still -/
theorem seq_lst_sat {l : Nat} {xs : List D} {t : Tm} (hl : G.ob l = .lst xs) (P : Nat → Ev → Gh → Prop) (h0 : P 0 env G) (hs : ∀ i e G, P i e G → G.ob l = .lst xs)
    (turn : ∀ i d e G, xs[i]? = some d → P i e G → evQ (t d G e) fun e1 => (s e1 G).sat ⟨P (i + 1), q.rt, q.er, q.nx, P (i + 1)⟩) (done : ∀ e G, P xs.length e G → q.nx e G) :
    imQ (seqI (.ref l) G) fun it => (loopR it t s it.n 0 env G).sat q := by
  unfold seqI
  dsimp only
  rw [hl]
  exact loop_sat (xs := xs) P (fun i e G _ p => by show (match G.ob l with | .lst xs => some xs[i]? | _ => none) = _; rw [hs i e G p]) turn done _ 0 env G rfl h0
theorem seq_tup_sat {xs : List D} {t : Tm} (P : Nat → Ev → Gh → Prop) (h0 : P 0 env G)
    (turn : ∀ i d e G, xs[i]? = some d → P i e G → evQ (t d G e) fun e1 => (s e1 G).sat ⟨P (i + 1), q.rt, q.er, q.nx, P (i + 1)⟩) (done : ∀ e G, P xs.length e G → q.nx e G) :
    imQ (seqI (.tup xs) G) fun it => (loopR it t s it.n 0 env G).sat q := loop_sat (xs := xs) P (fun i e G _ p => rfl) turn done _ 0 env G rfl h0
theorem seq_str_sat {z : Str} {t : Tm} (P : Nat → Ev → Gh → Prop) (h0 : P 0 env G)
    (turn : ∀ i c e G, z.cps[i]? = some c → P i e G → evQ (t (.str ⟨#[c]⟩) G e) fun e1 => (s e1 G).sat ⟨P (i + 1), q.rt, q.er, q.nx, P (i + 1)⟩) (done : ∀ e G, P z.cps.size e G → q.nx e G) :
    imQ (seqI (.str z) G) fun it => (loopR it t s it.n 0 env G).sat q := by
  refine loop_sat (xs := z.cps.toList.map fun c => D.str ⟨#[c]⟩) P (fun i e G _ p => ?_) (fun i d e G hd p => ?_) (fun e G p => done e G (by simpa using p)) _ 0 env G (by simp) h0
  · show some (z.cps[i]?.map fun c => D.str ⟨#[c]⟩) = _
    rw [List.getElem?_map]
    simp
  · rw [List.getElem?_map] at hd
    obtain ⟨c, e1, e2⟩ := Option.map_eq_some_iff.mp hd
    subst e2
    exact turn i c e G (by simpa using e1) p
end
/-! ### the heap -/
theorem ob_set (G : Gh) (i j : Nat) (o : Ob) : (G.set i o).ob j = if j = i then o else G.ob j := rfl
theorem ob_push (G : Gh) (j : Nat) (o : Ob) : (G.push o).ob j = if j = G.n then o else G.ob j := rfl
theorem n_set (G : Gh) (i : Nat) (o : Ob) : (G.set i o).n = G.n := rfl
theorem n_push (G : Gh) (o : Ob) : (G.push o).n = G.n + 1 := rfl
theorem ob_set_same (G : Gh) (i : Nat) (o : Ob) : (G.set i o).ob i = o := if_pos rfl
theorem ob_push_same (G : Gh) (o : Ob) : (G.push o).ob G.n = o := if_pos rfl
theorem ob_set_ne (G : Gh) {i j : Nat} (o : Ob) (h : j ≠ i) : (G.set i o).ob j = G.ob j := if_neg h
theorem ob_push_ne (G : Gh) {j : Nat} (o : Ob) (h : j ≠ G.n) : (G.push o).ob j = G.ob j := if_neg h
theorem push_set (G : Gh) (o o' : Ob) : (G.push o).set G.n o' = G.push o' := by
  unfold Gh.push Gh.set
  congr 1
  funext j
  dsimp only
  split <;> rfl
/-- all that was there stands as it was -/
def Fr (G G' : Gh) : Prop := G.n ≤ G'.n ∧ ∀ j, j < G.n → G'.ob j = G.ob j
theorem Fr.refl (G : Gh) : Fr G G := ⟨Nat.le_refl _, fun _ _ => rfl⟩
theorem Fr.trans {G G1 G2 : Gh} (a : Fr G G1) (b : Fr G1 G2) : Fr G G2 := ⟨Nat.le_trans a.1 b.1, fun j h => (b.2 j (Nat.lt_of_lt_of_le h a.1)).trans (a.2 j h)⟩
theorem Fr.push (G : Gh) (o : Ob) : Fr G (G.push o) := ⟨Nat.le_succ _, fun j h => ob_push_ne G o (Nat.ne_of_lt h)⟩
theorem Fr.set {G G1 : Gh} (a : Fr G G1) {i : Nat} (o : Ob) (h : G.n ≤ i) : Fr G (G1.set i o) := ⟨a.1, fun j hj => (ob_set_ne G1 o (by omega)).trans (a.2 j hj)⟩
/-- .. but for those of l -/
def FrX (l : List Nat) (G G' : Gh) : Prop := G.n ≤ G'.n ∧ ∀ j, j < G.n → j ∉ l → G'.ob j = G.ob j
theorem Fr.x {G G' : Gh} (a : Fr G G') (l : List Nat) : FrX l G G' := ⟨a.1, fun j h _ => a.2 j h⟩
theorem FrX.refl (l : List Nat) (G : Gh) : FrX l G G := ⟨Nat.le_refl _, fun _ _ _ => rfl⟩
theorem FrX.trans {l : List Nat} {G G1 G2 : Gh} (a : FrX l G G1) (b : FrX l G1 G2) : FrX l G G2 := ⟨Nat.le_trans a.1 b.1, fun j h n => (b.2 j (Nat.lt_of_lt_of_le h a.1) n).trans (a.2 j h n)⟩
theorem FrX.set {l : List Nat} {G G1 : Gh} (a : FrX l G G1) {i : Nat} (o : Ob) (h : i ∈ l ∨ G.n ≤ i) : FrX l G (G1.set i o) := ⟨a.1, fun j hj n => (ob_set_ne G1 o (by
  rcases h with h | h
  · exact fun e => n (e ▸ h)
  · omega)).trans (a.2 j hj n)⟩
theorem FrX.push {l : List Nat} {G G1 : Gh} (a : FrX l G G1) (o : Ob) : FrX l G (G1.push o) := ⟨Nat.le_succ_of_le a.1, fun j hj n => (ob_push_ne G1 o (by have := a.1; omega)).trans (a.2 j hj n)⟩
end Mi
/-! P, part 2: the operations' answers, as equations. -/
namespace Mi
open PySem PySem.Spec PyProof.Rows L2
theorem eq_of_sat {α : Type} {r : Rs α} {a : α} {G : Gh} (h : r.sat (fun a' G' => a' = a ∧ G' = G) nE) : r = .ok a G := by
  cases r with
  | ok a' G' => obtain ⟨h1, h2⟩ := h; rw [h1, h2]
  | er c G' => exact h.elim
  | no => exact h.elim
section
variable {G : Gh} {i j : Int} {a b : Str} {xs ys : List D} {d e : D} {k l : Nat} {kvs : List (Key × D)} {p q : Bool}
theorem o_add : opAdd (.int i) (.int j) G = some (.int (i + j), G) := rfl
theorem o_adds (h : a.length + b.length ≤ sizeLine) : opAdd (.str a) (.str b) G = some (.str (a ++ b), G) := if_pos h
theorem o_sub : opSub (.int i) (.int j) G = some (.int (i - j), G) := rfl
theorem o_mul (h : CMul i j) : opMul (.int i) (.int j) G = some (.int (i * j), G) := if_pos h
theorem o_mod (h : 0 < j) : opMod (.int i) (.int j) G = some (.int (i % j), G) := if_pos h
theorem o_fdiv (h : 0 < j ∧ j.natAbs.log2 < 9000) : opFdiv (.int i) (.int j) G = some (.int (i / j), G) := if_pos h
theorem o_lt : opLt (.int i) (.int j) G = some (.bl (decide (i < j)), G) := rfl
theorem o_le : opLe (.int i) (.int j) G = some (.bl (decide (i ≤ j)), G) := rfl
theorem o_gt : opGt (.int i) (.int j) G = some (.bl (decide (j < i)), G) := rfl
theorem o_ge : opGe (.int i) (.int j) G = some (.bl (decide (j ≤ i)), G) := rfl
theorem o_les : opLe (.str a) (.str b) G = some (.bl (!decide (b.cps.toList < a.cps.toList)), G) := rfl
theorem o_eq : opEq (.int i) (.int j) G = some (.bl (decide (i = j)), G) := rfl
theorem o_ne : opNe (.int i) (.int j) G = some (.bl (!decide (i = j)), G) := rfl
theorem o_eqs : opEq (.str a) (.str b) G = some (.bl (decide (a = b)), G) := rfl
theorem o_nes : opNe (.str a) (.str b) G = some (.bl (!decide (a = b)), G) := rfl
theorem o_eqb : opEq (.bl p) (.bl q) G = some (.bl (decide (p = q)), G) := rfl
theorem o_neb : opNe (.bl p) (.bl q) G = some (.bl (!decide (p = q)), G) := rfl
theorem o_is : opIs d .non G = some (.bl (isNon d), G) := rfl
theorem o_isNot : opIsNot d .non G = some (.bl (!isNon d), G) := rfl
theorem o_iadd : opIadd (.int i) (.int j) G = some (.int (i + j), G) := rfl
theorem o_neg : opNeg (.int i) G = some (.int (-i), G) := rfl
theorem b_int : bInt [.int i] G = some (.int i, G) := rfl
theorem b_min : bMin [.int i, .int j] G = some (.int (if j < i then j else i), G) := rfl
theorem b_max : bMax [.int i, .int j] G = some (.int (if j > i then j else i), G) := rfl
theorem b_len (h : lenD d G = some k) : bLen [d] G = some (.int (k : Int), G) := by unfold bLen; dsimp only; rw [h]; rfl
theorem len_lst (h : G.ob l = .lst xs) : lenD (.ref l) G = some xs.length := by unfold lenD; dsimp only; rw [h]
theorem len_dct (h : G.ob l = .dct kvs) : lenD (.ref l) G = some kvs.length := by unfold lenD; dsimp only; rw [h]
theorem b_str (h : i.natAbs.log2 < 1920) : bStr [.int i] G = some (.str (toString i), G) := if_pos h
theorem b_list (h : G.ob l = .lst xs) : bList [.ref l] G = some (.ref G.n, G.push (.lst xs)) := by unfold bList itemsD; dsimp only; rw [h]; rfl
theorem b_tuple (h : G.ob l = .lst xs) : bTuple [.ref l] G = some (.tup xs, G) := by unfold bTuple itemsD; dsimp only; rw [h]; rfl
theorem m_append {y : D} (h : G.ob l = .lst xs) (hz : xs.length < sizeLine) : mAppend (.ref l) [y] G = some (.non, G.set l (.lst (xs ++ [y]))) := by unfold mAppend; dsimp only; rw [h]; dsimp only; rw [if_pos hz]
theorem m_clear (h : G.ob l = .lst xs) : mClear (.ref l) [] G = some (.non, G.set l (.lst [])) := by unfold mClear; dsimp only; rw [h]
theorem isLst_of (h : G.ob l = .lst xs) : isLst (.ref l) G = true := by unfold isLst; dsimp only; rw [h]
theorem ix_lst (h : G.ob l = .lst xs) (e : L2.atI xs i = some d) : opIx (.ref l) (.int i) G = some (d, G) := by unfold opIx ixD; dsimp only; rw [h]; dsimp only; rw [e]; rfl
theorem ix_tup (e : L2.atI xs i = some d) : opIx (.tup xs) (.int i) G = some (d, G) := by unfold opIx ixD; dsimp only; rw [e]; rfl
theorem ix_rol (e : L2.atI xs i = some d) : opIx (.rol xs) (.int i) G = some (d, G) := by unfold opIx ixD; dsimp only; rw [e]; rfl
theorem ix_dct {x : D} {kk : Key} (h : G.ob l = .dct kvs) (hk : keyD x = some kk) (e : valD kvs kk = some d) : opIx (.ref l) x G = some (d, G) := by unfold opIx ixD; dsimp only; rw [h]; dsimp only; rw [hk]; show Option.map _ (valD kvs kk) = _; rw [e]; rfl
theorem ix_lk {x : D} {kk : Key} (h : G.ob l = .lk kvs) (hk : keyD x = some kk) (e : valD kvs kk = some d) : opIx (.ref l) x G = some (d, G) := by unfold opIx ixD; dsimp only; rw [h]; dsimp only; rw [hk]; show Option.map _ (valD kvs kk) = _; rw [e]; rfl
theorem fld_of {na : Nat → Nat → Bool} {c f : Nat} {fs : List (Nat × D)} (h : G.ob l = .ins c fs) (hn : na c f = true) (e : valD fs f = some d) : fldO na f (.ref l) G = some d := by unfold fldO; dsimp only; rw [h]; dsimp only; rw [if_pos hn, e]
theorem setFld_ok {na : Nat → Nat → Bool} {c f : Nat} {fs : List (Nat × D)} (h : G.ob l = .ins c fs) (hn : na c f = true) (hz : fs.length < 1000) : setFldO na f (.ref l) d G = some (G.set l (.ins c (putD fs f d))) := by unfold setFldO; dsimp only; rw [h]; dsimp only; rw [if_pos ⟨hn, hz⟩]
theorem set_lst {kk : Nat} (h : G.ob l = .lst xs) (e : L2.ixN xs.length i = some kk) : setO (.ref l) (.int i) d G = some (G.set l (.lst (xs.set kk d))) := by unfold setO; dsimp only; rw [h]; dsimp only; rw [e]
theorem set_dct {x : D} {kk : Key} (h : G.ob l = .dct kvs) (hk : keyD x = some kk) (hz : kvs.length < sizeLine) : setO (.ref l) x d G = some (G.set l (.dct (putD kvs kk d))) := by unfold setO; dsimp only; rw [h]; dsimp only; rw [hk]; dsimp only; rw [if_pos hz]
theorem dct_ob (h : G.ob l = .dct kvs) : dctD (.ref l) G = some kvs := by unfold dctD; dsimp only; rw [h]
theorem ty_lst (h : G.ob l = .lst xs) : tyD (.ref l) G = some 5 := by unfold tyD; dsimp only; rw [h]
theorem atI_nat {xs : List D} {k : Nat} (h : k < xs.length) : L2.atI xs (k : Int) = some xs[k] := by
  unfold L2.atI L2.ixN
  rw [if_pos (by omega), if_pos (by omega)]
  show xs[(k : Int).toNat]? = _
  rw [Int.toNat_natCast, List.getElem?_eq_getElem h]
theorem sz1 {n : Nat} (h : n ≤ 1000000) : n ≤ sizeLine := Nat.le_trans h (by decide)
theorem sz2 {n : Nat} (h : n ≤ 1000000) : n < sizeLine := Nat.lt_of_le_of_lt h (by decide)
end
end Mi

namespace Lw
open PySem PySem.Spec PyProof.Rows L2 Mi
/-! ### the mirrors -/
def naL : List (Nat × Nat) := [(10, 13), (10, 14), (10, 15), (10, 16)]
def na (c f : Nat) : Bool := naOf naL c f
def c_SORTS : D := (.tup [(.str "asset"), (.str "debt"), (.str "equity"), (.str "income"), (.str "cost")])
def sb_0 : Nat → Option Bool := sbOf [(0, true), (1, true), (2, true), (3, true), (5, true)]
def tab_BadDay : List (Nat × Bool) := [(0, false), (1, false), (2, true), (3, false), (5, false)]
def tab_Missing : List (Nat × Bool) := [(0, false), (1, false), (2, false), (3, true), (5, false)]
def tab_ValueError : List (Nat × Bool) := [(0, true), (1, true), (2, true), (3, true), (5, true)]
def q_law_numbers_1 : Sm := sSeq (sDrop (eMt mAppend (eVar 4) (aCons (eOp opMod (eB bInt (aCons (eVar 3) aNil)) (eC (.int 4000000007))) aNil))) (sAsg (gmN 3) (eOp opFdiv (eVar 3) (eC (.int 4000000007))))
def q_law_numbers_3 : Sm := sSeq (sAsg (gmN 6) (eOp opMul (eOp opMul (eOp opAdd (eOp opMod (eB bInt (aCons (eVar 6) aNil)) (eC (.int 46337))) (eC (.int 1))) (eOp opAdd (eOp opAdd (eOp opFdiv (eVar 6) (eC (.int 46337))) (eOp opMul (eC (.int 3)) (eVar 5))) (eC (.int 1)))) (eC (.int 16807)))) (sDrop (eMt mAppend (eVar 4) (aCons (eOp opFdiv (eOp opMod (eB bInt (aCons (eVar 6) aNil)) (eC (.int 2147483629))) (eC (.int 32))) aNil)))
def q_law_numbers_2 : Sm := sSeq (sAsg (gmN 6) (eOp opMod (eB bInt (aCons (eOp opAdd (eOp opAdd (eOp opMul (eVar 2) (eC (.int 48271))) (eOp opMul (eVar 5) (eC (.int 69621)))) (eC (.int 11))) aNil)) (eC (.int 2147483647)))) q_law_numbers_3
def q_law_numbers_9 : Sm := sSeq (sFor (iRng1' (aCons (eVar 1) aNil)) (gmN 5)
      (sIf (asB (eOp opGt (eVar 3) (eC (.int 0)))) q_law_numbers_1 q_law_numbers_2)) (sRet (eVar 4))
def q_law_numbers_8 : Sm := sSeq (sAsg (gmN 4) (eLst aNil)) q_law_numbers_9
def q_law_numbers_7 : Sm := sSeq (sIf (asB (eOp opGe (eVar 2) (eOp opPow (eC (.int 10)) (eC (.int 18))))) (sAsg (gmN 3) (eVar 2)) sNx) q_law_numbers_8
def q_law_numbers_6 : Sm := sSeq (sAsg (gmN 3) (eC (.int 0))) q_law_numbers_7
def q_law_numbers_5 : Sm := sSeq (sIf (asB (eOp opLt (eVar 2) (eC (.int 0)))) (sAsg (gmN 2) (eOp opSub (eOp opSub (eC (.int 0)) (eVar 2)) (eC (.int 1)))) sNx) q_law_numbers_6
def q_law_numbers_4 : Sm := sSeq (sAsg (gmN 2) (eOp opMul (eC (.int 2)) (eB bInt (aCons (eVar 0) aNil)))) q_law_numbers_5
def b_law_numbers : Sm := q_law_numbers_4
def m_law_numbers : List D → M D := mFun 2 7 b_law_numbers
def q_Ledger_init_3 : Sm := sSeq (sFld na 15 (eVar 0) (eLst aNil)) (sFld na 16 (eVar 0) eDct0)
def q_Ledger_init_2 : Sm := sSeq (sFld na 14 (eVar 0) (eLst aNil)) q_Ledger_init_3
def q_Ledger_init_1 : Sm := sSeq (sFld na 13 (eVar 0) (eLst aNil)) q_Ledger_init_2
def b_Ledger_init : Sm := q_Ledger_init_1
def m_Ledger_init : List D → M D := mFun 1 1 b_Ledger_init
def q_check_currency_1 : Sm := sSeq (sIf (asB (eOp opNe (eB bLen (aCons (eVar 0) aNil)) (eC (.int 3)))) (sRaise 1) sNx) (sFor (iSeq (eVar 0)) (gmN 1)
      (sIf (bNot (asB (eChain opLe opLe (eC (.str "A")) (eVar 1) (eC (.str "Z"))))) (sRaise 1) sNx))
def b_check_currency : Sm := q_check_currency_1
def m_check_currency : List D → M D := mFun 1 2 b_check_currency
def q_Ledger_open_account_5 : Sm := sSeq (sDrop (eMt mAppend (eFld na 14 (eVar 0)) (aCons (eLst aNil) aNil))) (sRet (eB bLen (aCons (eFld na 13 (eVar 0)) aNil)))
def q_Ledger_open_account_4 : Sm := sSeq (sDrop (eMt mAppend (eFld na 13 (eVar 0)) (aCons (eTup (aCons (eVar 1) (aCons (eVar 2) aNil))) aNil))) q_Ledger_open_account_5
def q_Ledger_open_account_3 : Sm := sSeq (sIf (asB (eOp opGe (eB bLen (aCons (eFld na 13 (eVar 0)) aNil)) (eC (.int 200)))) (sRaise 5) sNx) q_Ledger_open_account_4
def q_Ledger_open_account_2 : Sm := sSeq (sIf (asB (eOp opNotIn (eVar 2) (eC c_SORTS))) (sRaise 1) sNx) q_Ledger_open_account_3
def q_Ledger_open_account_1 : Sm := sSeq (sDrop (eCall m_check_currency (aCons (eVar 1) aNil))) q_Ledger_open_account_2
def b_Ledger_open_account : Sm := q_Ledger_open_account_1
def m_Ledger_open_account : List D → M D := mFun 3 3 b_Ledger_open_account
def q_law_books_1 : Sm := sSeq (sDrop (eMeth 10 none m_Ledger_open_account (eVar 1) (aCons (eC (.str "EUR")) (aCons (eOp opIx (eTup (aCons (eC (.str "asset")) (aCons (eC (.str "debt")) (aCons (eC (.str "equity")) (aCons (eC (.str "income")) (aCons (eC (.str "cost")) aNil)))))) (eOp opMod (eB bInt (aCons (eOp opAdd (eOp opIx (eVar 0) (eC (.int 1))) (eVar 4)) aNil)) (eC (.int 5)))) aNil)))) (sDrop (eMt mAppend (eVar 3) (aCons (eLst aNil) aNil)))
def q_law_books_5 : Sm := sSeq (sFor (iRng1' (aCons (eVar 2) aNil)) (gmN 4)
      q_law_books_1) (sRet (eTup (aCons (eVar 1) (aCons (eVar 3) aNil))))
def q_law_books_4 : Sm := sSeq (sAsg (gmN 3) (eLst aNil)) q_law_books_5
def q_law_books_3 : Sm := sSeq (sAsg (gmN 2) (eOp opAdd (eC (.int 2)) (eOp opMod (eB bInt (aCons (eOp opIx (eVar 0) (eC (.int 0))) aNil)) (eC (.int 4))))) q_law_books_4
def q_law_books_2 : Sm := sSeq (sAsg (gmN 1) (eMake 10 m_Ledger_init aNil)) q_law_books_3
def b_law_books : Sm := q_law_books_2
def m_law_books : List D → M D := mFun 1 5 b_law_books
def b_is_day : Sm := (sRet (eChain opLe opLe (eC (.int 0)) (eVar 0) (eC (.int 36524))))
def m_is_day : List D → M D := mFun 1 1 b_is_day
def q_Ledger_check_head_2 : Sm := sSeq (sIf (bAnd (tru (eFld na 15 (eVar 0))) (asB (eOp opLt (eVar 1) (eOp opIx (eOp opIx (eFld na 15 (eVar 0)) (eUn opNeg (eC (.int 1)))) (eC (.int 0)))))) (sRaise 2) sNx) (sIf (asB (eOp opGt (eB bLen (aCons (eVar 3) aNil)) (eC (.int 60)))) (sRaise 1) sNx)
def q_Ledger_check_head_1 : Sm := sSeq (sIf (bOr (bNot (tru (eCall m_is_day (aCons (eVar 1) aNil)))) (bNot (tru (eCall m_is_day (aCons (eVar 2) aNil))))) (sRaise 2) sNx) q_Ledger_check_head_2
def b_Ledger_check_head : Sm := q_Ledger_check_head_1
def m_Ledger_check_head : List D → M D := mFun 4 4 b_Ledger_check_head
def q_Ledger_account_1 : Sm := sSeq (sIf (bNot (asB (eChain opLe opLe (eC (.int 1)) (eVar 1) (eB bLen (aCons (eFld na 13 (eVar 0)) aNil))))) (sRaise 3) sNx) (sRet (eOp opIx (eFld na 13 (eVar 0)) (eOp opSub (eVar 1) (eC (.int 1)))))
def b_Ledger_account : Sm := q_Ledger_account_1
def m_Ledger_account : List D → M D := mFun 2 2 b_Ledger_account
def b_Ledger_currency_of : Sm := (sRet (eOp opIx (eMeth 10 none m_Ledger_account (eVar 0) (aCons (eVar 1) aNil)) (eC (.int 0))))
def m_Ledger_currency_of : List D → M D := mFun 2 2 b_Ledger_currency_of
def q_Ledger_check_lines_2 : Sm := sSeq (sIf (bOr (asB (eOp opEq (eVar 4) (eC (.int 0)))) (bNot (asB (eChain opLe opLe (eOp opSub (eC (.int 0)) (eC (.int 1000000000))) (eVar 4) (eC (.int 1000000000)))))) (sRaise 1) sNx) (sSub (eVar 2) (eVar 5) (eOp opAdd (eGet2 (eVar 2) (eVar 5) (eC (.int 0))) (eVar 4)))
def q_Ledger_check_lines_1 : Sm := sSeq (sAsg (gmN 5) (eMeth 10 none m_Ledger_currency_of (eVar 0) (aCons (eVar 3) aNil))) q_Ledger_check_lines_2
def q_Ledger_check_lines_5 : Sm := sSeq (sFor (iSeq (eVar 1)) (gmT ((gmN 3) :: ((gmN 4) :: [])))
      q_Ledger_check_lines_1) (sForK 2 (gmN 5) (sIf (asB (eOp opNe (eOp opIx (eVar 2) (eVar 5)) (eC (.int 0)))) (sRaise 1) sNx))
def q_Ledger_check_lines_4 : Sm := sSeq (sAsg (gmN 2) eDct0) q_Ledger_check_lines_5
def q_Ledger_check_lines_3 : Sm := sSeq (sIf (bNot (asB (eChain opLe opLe (eC (.int 2)) (eB bLen (aCons (eVar 1) aNil)) (eC (.int 20))))) (sRaise 1) sNx) q_Ledger_check_lines_4
def b_Ledger_check_lines : Sm := q_Ledger_check_lines_3
def m_Ledger_check_lines : List D → M D := mFun 2 6 b_Ledger_check_lines
def q_Ledger_add_5 : Sm := sSeq (sDrop (eMt mAppend (eFld na 15 (eVar 0)) (aCons (eTup (aCons (eVar 1) (aCons (eVar 2) (aCons (eVar 3) (aCons (eVar 9) (aCons (eVar 5) aNil)))))) aNil))) (sRet (eVar 6))
def q_Ledger_add_4 : Sm := sSeq (sAsg (gmN 9) (eB bTuple (aCons (eLc (iSeq (eVar 4)) (gmT ((gmN 7) :: ((gmN 8) :: []))) bYes (eTup (aCons (eVar 7) (aCons (eVar 8) aNil))) [7, 8]) aNil))) q_Ledger_add_5
def q_Ledger_add_3 : Sm := sSeq (sFor (iSeq (eVar 4)) (gmT ((gmN 7) :: ((gmN 8) :: [])))
      (sDrop (eMt mAppend (eOp opIx (eFld na 14 (eVar 0)) (eOp opSub (eVar 7) (eC (.int 1)))) (aCons (eTup (aCons (eVar 6) (aCons (eVar 1) (aCons (eVar 2) (aCons (eVar 8) aNil))))) aNil)))) q_Ledger_add_4
def q_Ledger_add_2 : Sm := sSeq (sAsg (gmN 6) (eOp opAdd (eB bLen (aCons (eFld na 15 (eVar 0)) aNil)) (eC (.int 1)))) q_Ledger_add_3
def q_Ledger_add_1 : Sm := sSeq (sIf (asB (eOp opGe (eB bLen (aCons (eFld na 15 (eVar 0)) aNil)) (eC (.int 2000)))) (sRaise 5) sNx) q_Ledger_add_2
def b_Ledger_add : Sm := q_Ledger_add_1
def m_Ledger_add : List D → M D := mFun 6 10 b_Ledger_add
def q_Ledger_post_2 : Sm := sSeq (sDrop (eMeth 10 none m_Ledger_check_lines (eVar 0) (aCons (eVar 4) aNil))) (sRet (eMeth 10 none m_Ledger_add (eVar 0) (aCons (eVar 1) (aCons (eVar 2) (aCons (eVar 3) (aCons (eVar 4) (aCons (eC .non) aNil)))))))
def q_Ledger_post_1 : Sm := sSeq (sDrop (eMeth 10 none m_Ledger_check_head (eVar 0) (aCons (eVar 1) (aCons (eVar 2) (aCons (eVar 3) aNil))))) q_Ledger_post_2
def b_Ledger_post : Sm := q_Ledger_post_1
def m_Ledger_post : List D → M D := mFun 5 5 b_Ledger_post
def q_law_post_5 : Sm := sSeq (sDrop (eMt mAppend (eVar 5) (aCons (eTup (aCons (eVar 8) (aCons (eVar 7) aNil))) aNil))) (sDrop (eMt mAppend (eVar 5) (aCons (eTup (aCons (eVar 9) (aCons (eOp opSub (eC (.int 0)) (eVar 7)) aNil))) aNil)))
def q_law_post_4 : Sm := sSeq (sAsg (gmN 9) (eOp opAdd (eC (.int 1)) (eOp opMod (eB bInt (aCons (eOp opIx (eVar 3) (eOp opAdd (eC (.int 10)) (eVar 6))) aNil)) (eB bLen (aCons (eVar 1) aNil))))) q_law_post_5
def q_law_post_3 : Sm := sSeq (sAsg (gmN 8) (eOp opAdd (eC (.int 1)) (eOp opMod (eB bInt (aCons (eOp opIx (eVar 3) (eOp opAdd (eC (.int 7)) (eVar 6))) aNil)) (eB bLen (aCons (eVar 1) aNil))))) q_law_post_4
def q_law_post_2 : Sm := sSeq (sIf (asB (eOp opEq (eOp opMod (eB bInt (aCons (eOp opIx (eVar 3) (eC (.int 2))) aNil)) (eC (.int 5))) (eC (.int 0)))) (sAsg (gmN 7) (eOp opAdd (eC (.int 1)) (eOp opMod (eB bInt (aCons (eOp opIx (eVar 3) (eOp opAdd (eC (.int 4)) (eVar 6))) aNil)) (eC (.int 1000000000))))) sNx) q_law_post_3
def q_law_post_1 : Sm := sSeq (sAsg (gmN 7) (eOp opAdd (eC (.int 1)) (eOp opMod (eB bInt (aCons (eOp opIx (eVar 3) (eOp opAdd (eC (.int 4)) (eVar 6))) aNil)) (eC (.int 500))))) q_law_post_2
def q_law_post_11 : Sm := sSeq (sAsg (gmN 10) (eMeth 10 none m_Ledger_post (eVar 0) (aCons (eVar 2) (aCons (eVar 4) (aCons (eOp opAdd (eC (.str "c")) (eB bStr (aCons (eOp opMod (eB bInt (aCons (eOp opIx (eVar 3) (eC (.int 1))) aNil)) (eC (.int 9))) aNil))) (aCons (eB bList (aCons (eVar 5) aNil)) aNil)))))) (sFor (iSeq (eVar 5)) (gmT ((gmN 11) :: ((gmN 7) :: [])))
      (sDrop (eMt mAppend (eOp opIx (eVar 1) (eOp opSub (eVar 11) (eC (.int 1)))) (aCons (eTup (aCons (eVar 10) (aCons (eVar 2) (aCons (eVar 4) (aCons (eVar 7) aNil))))) aNil))))
def q_law_post_10 : Sm := sSeq (sFor (iRng1' (aCons (eOp opAdd (eC (.int 1)) (eOp opMod (eB bInt (aCons (eOp opIx (eVar 3) (eC (.int 3))) aNil)) (eC (.int 3)))) aNil)) (gmN 6)
      q_law_post_1) q_law_post_11
def q_law_post_9 : Sm := sSeq (sAsg (gmN 5) (eLst aNil)) q_law_post_10
def q_law_post_8 : Sm := sSeq (sAsg (gmN 4) (eB bMin (aCons (eB bMax (aCons (eVar 4) (aCons (eC (.int 0)) aNil))) (aCons (eC (.int 36524)) aNil)))) q_law_post_9
def q_law_post_7 : Sm := sSeq (sIf (asB (eOp opEq (eOp opMod (eB bInt (aCons (eOp opIx (eVar 3) (eC (.int 2))) aNil)) (eC (.int 4))) (eC (.int 0)))) (sAsg (gmN 4) (eOp opMod (eB bInt (aCons (eOp opIx (eVar 3) (eC (.int 1))) aNil)) (eC (.int 36525)))) sNx) q_law_post_8
def q_law_post_6 : Sm := sSeq (sAsg (gmN 4) (eOp opSub (eOp opAdd (eVar 2) (eOp opMod (eB bInt (aCons (eOp opIx (eVar 3) (eC (.int 1))) aNil)) (eC (.int 7)))) (eC (.int 3)))) q_law_post_7
def b_law_post : Sm := q_law_post_6
def m_law_post : List D → M D := mFun 4 12 b_law_post
def q_law_span_6 : Sm := sSeq (sIf (asB (eOp opEq (eOp opMod (eB bInt (aCons (eOp opIx (eVar 1) (eC (.int 15))) aNil)) (eC (.int 11))) (eC (.int 3)))) (sAsg (gmN 3) (eOp opIx (eTup (aCons (eC (.int 0)) (aCons (eOp opSub (eC (.int 0)) (eC (.int 1))) (aCons (eC (.int 36524)) (aCons (eC (.int 36525)) aNil))))) (eOp opMod (eB bInt (aCons (eOp opIx (eVar 1) (eC (.int 14))) aNil)) (eC (.int 4))))) sNx) (sRet (eTup (aCons (eVar 2) (aCons (eVar 3) aNil))))
def q_law_span_5 : Sm := sSeq (sIf (asB (eOp opEq (eOp opMod (eB bInt (aCons (eOp opIx (eVar 1) (eC (.int 15))) aNil)) (eC (.int 11))) (eC (.int 2)))) (sAsg (gmN 2) (eOp opIx (eTup (aCons (eC (.int 0)) (aCons (eOp opSub (eC (.int 0)) (eC (.int 1))) (aCons (eC (.int 36524)) (aCons (eC (.int 36525)) aNil))))) (eOp opMod (eB bInt (aCons (eOp opIx (eVar 1) (eC (.int 13))) aNil)) (eC (.int 4))))) sNx) q_law_span_6
def q_law_span_4 : Sm := sSeq (sIf (asB (eOp opEq (eOp opMod (eB bInt (aCons (eOp opIx (eVar 1) (eC (.int 15))) aNil)) (eC (.int 7))) (eC (.int 1)))) (sAsg (gmN 3) (eOp opMod (eB bInt (aCons (eOp opIx (eVar 1) (eC (.int 14))) aNil)) (eC (.int 36525)))) sNx) q_law_span_5
def q_law_span_3 : Sm := sSeq (sIf (asB (eOp opEq (eOp opMod (eB bInt (aCons (eOp opIx (eVar 1) (eC (.int 15))) aNil)) (eC (.int 7))) (eC (.int 0)))) (sAsg (gmN 2) (eOp opMod (eB bInt (aCons (eOp opIx (eVar 1) (eC (.int 13))) aNil)) (eC (.int 36525)))) sNx) q_law_span_4
def q_law_span_2 : Sm := sSeq (sAsg (gmN 3) (eOp opAdd (eVar 2) (eOp opMod (eB bInt (aCons (eOp opIx (eVar 1) (eC (.int 14))) aNil)) (eC (.int 9))))) q_law_span_3
def q_law_span_1 : Sm := sSeq (sAsg (gmN 2) (eOp opSub (eOp opAdd (eVar 0) (eOp opMod (eB bInt (aCons (eOp opIx (eVar 1) (eC (.int 13))) aNil)) (eC (.int 9)))) (eC (.int 6)))) q_law_span_2
def b_law_span : Sm := q_law_span_1
def m_law_span : List D → M D := mFun 2 4 b_law_span
def q_law_due_1 : Sm := sSeq (sAsg (gmN 4) (eOp opAdd (eVar 4) (eVar 9))) (sDrop (eMt mAppend (eVar 5) (aCons (eTup (aCons (eVar 6) (aCons (eVar 7) (aCons (eVar 8) (aCons (eVar 9) (aCons (eVar 4) aNil)))))) aNil)))
def q_law_due_8 : Sm := sSeq (sFor (iSeq (eOp opIx (eVar 0) (eOp opSub (eVar 1) (eC (.int 1))))) (gmT ((gmN 6) :: ((gmN 7) :: ((gmN 8) :: ((gmN 9) :: [])))))
      (sIf (asB (eChain opLe opLe (eVar 2) (eVar 7) (eVar 3))) q_law_due_1 sNx)) (sRet (eTup (aCons (eVar 10) (aCons (eVar 5) (aCons (eVar 4) aNil)))))
def q_law_due_7 : Sm := sSeq (sAsg (gmN 10) (eVar 4)) q_law_due_8
def q_law_due_6 : Sm := sSeq (sFor (iSeq (eOp opIx (eVar 0) (eOp opSub (eVar 1) (eC (.int 1))))) (gmT ((gmN 6) :: ((gmN 7) :: ((gmN 8) :: ((gmN 9) :: [])))))
      (sIf (asB (eOp opLt (eVar 7) (eVar 2))) (sAsg (gmN 4) (eOp opAdd (eVar 4) (eVar 9))) sNx)) q_law_due_7
def q_law_due_5 : Sm := sSeq (sAsg (gmN 5) (eLst aNil)) q_law_due_6
def q_law_due_4 : Sm := sSeq (sAsg (gmN 4) (eC (.int 0))) q_law_due_5
def q_law_due_3 : Sm := sSeq (sIf (bOr (asB (eOp opLt (eVar 2) (eC (.int 0)))) (bOr (asB (eOp opGt (eVar 3) (eC (.int 36524)))) (asB (eOp opGt (eVar 2) (eVar 3))))) (sRet (eC (.str "BadDay"))) sNx) q_law_due_4
def q_law_due_2 : Sm := sSeq (sIf (bNot (asB (eChain opLe opLe (eC (.int 1)) (eVar 1) (eB bLen (aCons (eVar 0) aNil))))) (sRet (eC (.str "Missing"))) sNx) q_law_due_3
def b_law_due : Sm := q_law_due_2
def m_law_due : List D → M D := mFun 4 11 b_law_due
def q_check_span_1 : Sm := sSeq (sDrop (eMeth 10 none m_Ledger_currency_of (eVar 0) (aCons (eVar 1) aNil))) (sIf (bOr (bNot (tru (eCall m_is_day (aCons (eVar 2) aNil)))) (bOr (bNot (tru (eCall m_is_day (aCons (eVar 3) aNil)))) (asB (eOp opGt (eVar 2) (eVar 3))))) (sRaise 2) sNx)
def b_check_span : Sm := q_check_span_1
def m_check_span : List D → M D := mFun 4 4 b_check_span
def q_Ledger_lines_of_1 : Sm := sSeq (sDrop (eMeth 10 none m_Ledger_account (eVar 0) (aCons (eVar 1) aNil))) (sRet (eB bList (aCons (eOp opIx (eFld na 14 (eVar 0)) (eOp opSub (eVar 1) (eC (.int 1)))) aNil)))
def b_Ledger_lines_of : Sm := q_Ledger_lines_of_1
def m_Ledger_lines_of : List D → M D := mFun 2 2 b_Ledger_lines_of
def q_statement_1 : Sm := sSeq (sIf (asB (eOp opLe (eVar 8) (eVar 3))) (sAsg (gmN 5) (eOp opAdd (eVar 5) (eVar 10))) sNx) (sIf (asB (eOp opLt (eVar 8) (eVar 2))) (sAsg (gmN 4) (eOp opAdd (eVar 4) (eVar 10))) (sIf (asB (eOp opLe (eVar 8) (eVar 3))) (sDrop (eMt mAppend (eVar 6) (aCons (eTup (aCons (eVar 7) (aCons (eVar 8) (aCons (eVar 9) (aCons (eVar 10) (aCons (eVar 5) aNil)))))) aNil))) sNx))
def q_statement_6 : Sm := sSeq (sFor (iSeq (eMeth 10 none m_Ledger_lines_of (eVar 0) (aCons (eVar 1) aNil))) (gmT ((gmN 7) :: ((gmN 8) :: ((gmN 9) :: ((gmN 10) :: [])))))
      q_statement_1) (sRet (eTup (aCons (eVar 4) (aCons (eVar 6) (aCons (eVar 5) aNil)))))
def q_statement_5 : Sm := sSeq (sAsg (gmN 6) (eLst aNil)) q_statement_6
def q_statement_4 : Sm := sSeq (sAsg (gmN 5) (eC (.int 0))) q_statement_5
def q_statement_3 : Sm := sSeq (sAsg (gmN 4) (eC (.int 0))) q_statement_4
def q_statement_2 : Sm := sSeq (sDrop (eCall m_check_span (aCons (eVar 0) (aCons (eVar 1) (aCons (eVar 2) (aCons (eVar 3) aNil)))))) q_statement_3
def b_statement : Sm := q_statement_2
def m_statement : List D → M D := mFun 4 11 b_statement
def q_law_class_4 (a0 : Addr) (c : Nat) : Sm := sSeq (sIf (bAnd (asB (eOp opEq (eB bLen (aCons (eVar 1) aNil)) (eC (.int 1)))) (tru (eIsE a0 0 c tab_ValueError))) (sRet (eOp opIx (eVar 1) (eC (.int 0)))) sNx) (sRet (eC (.str "odd")))
def q_law_class_3 (a0 : Addr) (c : Nat) : Sm := sSeq (sIf (tru (eIsE a0 0 c tab_Missing)) (sDrop (eMt mAppend (eVar 1) (aCons (eC (.str "Missing")) aNil))) sNx) (q_law_class_4 a0 c)
def q_law_class_2 (a0 : Addr) (c : Nat) : Sm := sSeq (sIf (tru (eIsE a0 0 c tab_BadDay)) (sDrop (eMt mAppend (eVar 1) (aCons (eC (.str "BadDay")) aNil))) sNx) (q_law_class_3 a0 c)
def q_law_class_1 (a0 : Addr) (c : Nat) : Sm := sSeq (sAsg (gmN 1) (eLst aNil)) (q_law_class_2 a0 c)
def b_law_class (a0 : Addr) (c : Nat) : Sm := (q_law_class_1 a0 c)
def m_law_class (a0 : Addr) (c : Nat) : List D → M D := mFun 1 2 (b_law_class a0 c)
def h_law_ask_1 (a0 : Addr) (c : Nat) : Sm := (sRet (eCall (m_law_class a0 c) (aCons (eVar 5) aNil)))
def h0_law_ask_1 (c : Nat) : Sm := fun env G => h_law_ask_1 0 c (env.set 5 (some (.exc 0))) G
def q_law_ask_1 : Sm := sSeq (sTryAs sb_0 5 (sAsg (gmN 4) (eCall m_statement (aCons (eVar 0) (aCons (eVar 1) (aCons (eVar 2) (aCons (eVar 3) aNil)))))) (fun c => h0_law_ask_1 c)) (sRet (eVar 4))
def b_law_ask : Sm := q_law_ask_1
def m_law_ask : List D → M D := mFun 4 6 b_law_ask
def q_law_same_7 (rec : List D → M D) : Sm := sSeq (sFor (iRng1' (aCons (eB bLen (aCons (eVar 1) aNil)) aNil)) (gmN 2)
      (sIf (bNot (tru (eCall rec (aCons (eOp opIx (eVar 0) (eVar 2)) (aCons (eOp opIx (eVar 1) (eVar 2)) aNil))))) (sRet (eC (.bl false))) sNx)) (sRet (eC (.bl true)))
def q_law_same_6 (rec : List D → M D) : Sm := sSeq (sIf (asB (eOp opNe (eB bLen (aCons (eVar 0) aNil)) (eB bLen (aCons (eVar 1) aNil)))) (sRet (eC (.bl false))) sNx) (q_law_same_7 rec)
def q_law_same_5 (rec : List D → M D) : Sm := sSeq (sIf (bOr (asB (eOp opNe (eIsi 5 (eVar 1)) (eIsi 5 (eVar 0)))) (asB (eOp opNe (eIsi 4 (eVar 1)) (eIsi 4 (eVar 0))))) (sRet (eC (.bl false))) sNx) (q_law_same_6 rec)
def q_law_same_4 (rec : List D → M D) : Sm := sSeq (sIf (tru (eIsi 3 (eVar 1))) (sRet (eAndV (eIsi 3 (eVar 0)) (eOp opEq (eVar 0) (eVar 1)))) sNx) (q_law_same_5 rec)
def q_law_same_3 (rec : List D → M D) : Sm := sSeq (sIf (tru (eIsi 2 (eVar 1))) (sRet (eAndV (eIsi 2 (eVar 0)) (eAndV (eNotV (eIsi 1 (eVar 0))) (eOp opEq (eVar 0) (eVar 1))))) sNx) (q_law_same_4 rec)
def q_law_same_2 (rec : List D → M D) : Sm := sSeq (sIf (tru (eIsi 1 (eVar 1))) (sRet (eAndV (eIsi 1 (eVar 0)) (eOp opEq (eVar 0) (eVar 1)))) sNx) (q_law_same_3 rec)
def q_law_same_1 (rec : List D → M D) : Sm := sSeq (sIf (asB (eOp opIs (eVar 1) (eC .non))) (sRet (eOp opIs (eVar 0) (eC .non))) sNx) (q_law_same_2 rec)
def b_law_same (rec : List D → M D) : Sm := (q_law_same_1 rec)
def m_law_same : Nat → List D → M D
  | 0 => mFun 2 3 sNever
  | n + 1 => mFun 2 3 (b_law_same (m_law_same n))
def q_law_10 : Sm := sSeq (sIf (tru (eIsi 4 (eVar 12))) (sDrop (eMt mAppend (eOp opIx (eVar 12) (eC (.int 1))) (aCons (eTup (aCons (eC (.int 0)) (aCons (eC (.int 0)) (aCons (eC (.int 0)) (aCons (eC (.int 0)) (aCons (eC (.int 0)) aNil)))))) aNil))) sNx) (sIf (bNot (tru (eCall (m_law_same 8) (aCons (eCall m_law_ask (aCons (eVar 2) (aCons (eVar 8) (aCons (eVar 9) (aCons (eVar 10) aNil))))) (aCons (eVar 11) aNil))))) (sRet (eC (.bl false))) sNx)
def q_law_9 : Sm := sSeq (sIf (bNot (tru (eCall (m_law_same 8) (aCons (eVar 12) (aCons (eVar 11) aNil))))) (sRet (eC (.bl false))) sNx) q_law_10
def q_law_8 : Sm := sSeq (sAsg (gmN 12) (eCall m_law_ask (aCons (eVar 2) (aCons (eVar 8) (aCons (eVar 9) (aCons (eVar 10) aNil)))))) q_law_9
def q_law_7 : Sm := sSeq (sAsg (gmN 11) (eCall m_law_due (aCons (eVar 3) (aCons (eVar 8) (aCons (eVar 9) (aCons (eVar 10) aNil)))))) q_law_8
def q_law_6 : Sm := sSeq (sAsg (gmT ((gmN 9) :: ((gmN 10) :: []))) (eCall m_law_span (aCons (eVar 4) (aCons (eVar 7) aNil)))) q_law_7
def q_law_5 : Sm := sSeq (sIf (asB (eOp opEq (eOp opMod (eB bInt (aCons (eOp opIx (eVar 7) (eC (.int 17))) aNil)) (eC (.int 9))) (eC (.int 0)))) (sAsg (gmN 8) (eOp opIx (eTup (aCons (eC (.int 0)) (aCons (eOp opAdd (eB bLen (aCons (eVar 3) aNil)) (eC (.int 1))) (aCons (eOp opSub (eC (.int 0)) (eC (.int 1))) aNil)))) (eOp opMod (eB bInt (aCons (eOp opIx (eVar 7) (eC (.int 16))) aNil)) (eC (.int 3))))) sNx) q_law_6
def q_law_4 : Sm := sSeq (sAsg (gmN 8) (eOp opAdd (eC (.int 1)) (eOp opMod (eB bInt (aCons (eOp opIx (eVar 7) (eC (.int 16))) aNil)) (eB bLen (aCons (eVar 3) aNil))))) q_law_5
def q_law_3 : Sm := sSeq (sDrop (eCall m_law_post (aCons (eVar 2) (aCons (eVar 3) (aCons (eVar 4) (aCons (eVar 7) aNil)))))) q_law_4
def q_law_2 : Sm := sSeq (sAsg (gmN 4) (eB bMin (aCons (eOp opAdd (eVar 4) (eOp opIx (eTup (aCons (eC (.int 0)) (aCons (eC (.int 0)) (aCons (eC (.int 1)) (aCons (eC (.int 3)) aNil))))) (eOp opMod (eB bInt (aCons (eOp opIx (eVar 7) (eC (.int 0))) aNil)) (eC (.int 4))))) (aCons (eC (.int 36524)) aNil)))) q_law_3
def q_law_1 : Sm := sSeq (sAsg (gmN 7) (eCall m_law_numbers (aCons (eVar 6) (aCons (eC (.int 18)) aNil)))) q_law_2
def q_law_17 : Sm := sSeq (sFor (iRng2' (aCons (eC (.int 1)) (aCons (eOp opAdd (eB bLen (aCons (eVar 3) aNil)) (eC (.int 1))) aNil))) (gmN 8)
      (sIf (bNot (tru (eCall (m_law_same 8) (aCons (eCall m_law_ask (aCons (eVar 2) (aCons (eVar 8) (aCons (eVar 5) (aCons (eVar 4) aNil))))) (aCons (eCall m_law_due (aCons (eVar 3) (aCons (eVar 8) (aCons (eVar 5) (aCons (eVar 4) aNil))))) aNil))))) (sRet (eC (.bl false))) sNx)) (sRet (eC (.bl true)))
def q_law_16 : Sm := sSeq (sFor (iSeq (eOp opAdd (eLst (aCons (eC (.int 5)) aNil)) (eSl (eVar 0) pNone (pSome (eC (.int 63)))))) (gmN 6)
      q_law_1) q_law_17
def q_law_15 : Sm := sSeq (sAsg (gmN 5) (eVar 4)) q_law_16
def q_law_14 : Sm := sSeq (sAsg (gmN 4) (eOp opIx (eTup (aCons (eC (.int 0)) (aCons (eC (.int 36500)) (aCons (eOp opMod (eB bInt (aCons (eOp opIx (eVar 1) (eC (.int 2))) aNil)) (eC (.int 36525))) (aCons (eOp opMod (eB bInt (aCons (eOp opIx (eVar 1) (eC (.int 2))) aNil)) (eC (.int 36525))) aNil))))) (eOp opMod (eB bInt (aCons (eOp opIx (eVar 1) (eC (.int 3))) aNil)) (eC (.int 4))))) q_law_15
def q_law_13 : Sm := sSeq (sAsg (gmT ((gmN 2) :: ((gmN 3) :: []))) (eCall m_law_books (aCons (eVar 1) aNil))) q_law_14
def q_law_12 : Sm := sSeq (sIf (asB (eOp opGt (eB bLen (aCons (eVar 0) aNil)) (eC (.int 0)))) (sAsg (gmN 1) (eCall m_law_numbers (aCons (eOp opIx (eVar 0) (eC (.int 0))) (aCons (eC (.int 4)) aNil)))) sNx) q_law_13
def q_law_11 : Sm := sSeq (sAsg (gmN 1) (eCall m_law_numbers (aCons (eC (.int 0)) (aCons (eC (.int 4)) aNil)))) q_law_12
def b_law : Sm := q_law_11
def m_law : List D → M D := mFun 1 13 b_law
/-! ### names, facts -/
def clL : List Str := ["BankError", "BadValue", "BadDay", "Missing", "Refused", "Full", "NotAllowed", "Damaged", "Order", "Orders", "Ledger", "Closing", "Product", "Record", "Claim", "Deposits", "Sender", "Receiver", "Outgoing", "Incoming", "Payments", "Transfer", "Transfers", "Bank", "Clearing", "System"]
def flL0 : List Str := ["maker", "kind", "amount", "key", "until", "required", "role", "grants", "state", "roles", "rules", "placed", "numbers_by_key", "_accounts", "_lines", "_entries", "_reversed", "deposits", "transfers", "left", "name", "currency", "way", "_versions", "product"]
def flL1 : List Str := ["owner", "opened", "limit", "accrued_to", "earned", "credited", "account", "_ledger", "_records", "_claims", "me", "other", "last", "dropped", "kept", "bank", "there", "full_key", "payer", "ledger", "sender", "made", "made_by_key", "came", "came_by_key"]
def flL2 : List Str := ["source", "target", "hold", "orders", "plans", "day", "founded", "chief", "products", "payments", "closing", "receiver", "records", "saved_deeds", "saved_letters", "saved_taken", "balances", "floors", "known", "line", "clearing", "mail", "banks", "senders", "receivers"]
def flL3 : List Str := ["targets", "refusals"]
def flL : List Str := flL0 ++ flL1 ++ flL2 ++ flL3
abbrev tg (K : PySem.W.Frag) : Tg := tgOf K clL flL
def top (i : Nat) : Stmt := PySem.Challenge.pw_corebank_k52_statements_add_up.main.body.getD i (.Pass ⟨0, 0, 0, 0⟩)
def d_law_numbers : He.DefD := ⟨("_law_numbers", none), "_law_numbers", "_law_numbers", defArgs (top 21), defBody (top 21), defScope (top 21), [], []⟩
def d_Ledger_init : He.DefD := ⟨("Ledger", some "__init__"), "__init__", "Ledger.__init__", defArgs (inClass (top 19) 0), defBody (inClass (top 19) 0), defScope (inClass (top 19) 0), [], []⟩
def d_check_currency : He.DefD := ⟨("check_currency", none), "check_currency", "check_currency", defArgs (top 18), defBody (top 18), defScope (top 18), [], []⟩
def d_Ledger_open_account : He.DefD := ⟨("Ledger", some "open_account"), "open_account", "Ledger.open_account", defArgs (inClass (top 19) 3), defBody (inClass (top 19) 3), defScope (inClass (top 19) 3), [], []⟩
def d_law_books : He.DefD := ⟨("_law_books", none), "_law_books", "_law_books", defArgs (top 24), defBody (top 24), defScope (top 24), [], []⟩
def d_is_day : He.DefD := ⟨("is_day", none), "is_day", "is_day", defArgs (top 9), defBody (top 9), defScope (top 9), [], []⟩
def d_Ledger_check_head : He.DefD := ⟨("Ledger", some "_check_head"), "_check_head", "Ledger._check_head", defArgs (inClass (top 19) 6), defBody (inClass (top 19) 6), defScope (inClass (top 19) 6), [], []⟩
def d_Ledger_account : He.DefD := ⟨("Ledger", some "_account"), "_account", "Ledger._account", defArgs (inClass (top 19) 10), defBody (inClass (top 19) 10), defScope (inClass (top 19) 10), [], []⟩
def d_Ledger_currency_of : He.DefD := ⟨("Ledger", some "currency_of"), "currency_of", "Ledger.currency_of", defArgs (inClass (top 19) 11), defBody (inClass (top 19) 11), defScope (inClass (top 19) 11), [], []⟩
def d_Ledger_check_lines : He.DefD := ⟨("Ledger", some "_check_lines"), "_check_lines", "Ledger._check_lines", defArgs (inClass (top 19) 7), defBody (inClass (top 19) 7), defScope (inClass (top 19) 7), [], []⟩
def d_Ledger_add : He.DefD := ⟨("Ledger", some "_add"), "_add", "Ledger._add", defArgs (inClass (top 19) 8), defBody (inClass (top 19) 8), defScope (inClass (top 19) 8), [], []⟩
def d_Ledger_post : He.DefD := ⟨("Ledger", some "post"), "post", "Ledger.post", defArgs (inClass (top 19) 4), defBody (inClass (top 19) 4), defScope (inClass (top 19) 4), [], []⟩
def d_law_post : He.DefD := ⟨("_law_post", none), "_law_post", "_law_post", defArgs (top 25), defBody (top 25), defScope (top 25), [], []⟩
def d_law_span : He.DefD := ⟨("_law_span", none), "_law_span", "_law_span", defArgs (top 26), defBody (top 26), defScope (top 26), [], []⟩
def d_law_due : He.DefD := ⟨("_law_due", none), "_law_due", "_law_due", defArgs (top 28), defBody (top 28), defScope (top 28), [], []⟩
def d_check_span : He.DefD := ⟨("check_span", none), "check_span", "check_span", defArgs (top 11), defBody (top 11), defScope (top 11), [], []⟩
def d_Ledger_lines_of : He.DefD := ⟨("Ledger", some "lines_of"), "lines_of", "Ledger.lines_of", defArgs (inClass (top 19) 13), defBody (inClass (top 19) 13), defScope (inClass (top 19) 13), [], []⟩
def d_statement : He.DefD := ⟨("statement", none), "statement", "statement", defArgs (top 12), defBody (top 12), defScope (top 12), [], []⟩
def d_law_class : He.DefD := ⟨("_law_class", none), "_law_class", "_law_class", defArgs (top 22), defBody (top 22), defScope (top 22), [], []⟩
def d_law_ask : He.DefD := ⟨("_law_ask", none), "_law_ask", "_law_ask", defArgs (top 27), defBody (top 27), defScope (top 27), [], []⟩
def d_law_same : He.DefD := ⟨("_law_same", none), "_law_same", "_law_same", defArgs (top 23), defBody (top 23), defScope (top 23), [], []⟩
def d_law : He.DefD := ⟨("law", none), "law", "law", defArgs (top 29), defBody (top 29), defScope (top 29), [], []⟩
def fn0 : List He.DefD := [d_law_numbers, d_Ledger_init, d_check_currency, d_Ledger_open_account, d_law_books, d_is_day, d_Ledger_check_head, d_Ledger_account, d_Ledger_currency_of, d_Ledger_check_lines, d_Ledger_add, d_Ledger_post, d_law_post, d_law_span, d_law_due, d_check_span, d_Ledger_lines_of, d_statement, d_law_class, d_law_ask, d_law_same, d_law]
def fn : List He.DefD := fn0
def faR0 : List He.Fa := [.free "int", .free "range", .glo "_law_numbers", .free "len", .mkr "Ledger", .glo "Ledger", .exc "BadValue", .glo "BadValue", .glo "check_currency", .int "MOST_ACCOUNTS" 200, .exc "Full", .glo "Full", .meth "Ledger" "open_account", .cls "Ledger", .glo "_law_books", .free "min", .free "max", .int "LAST_DAY" 36524, .glo "is_day", .exc "BadDay", .glo "BadDay", .meth "Ledger" "_check_head", .exc "Missing", .glo "Missing", .meth "Ledger" "_account"]
def faR1 : List He.Fa := [.meth "Ledger" "currency_of", .int "GREATEST_UNITS" 1000000000, .meth "Ledger" "_check_lines", .int "MOST_ENTRIES" 2000, .free "tuple", .meth "Ledger" "_add", .free "list", .free "str", .meth "Ledger" "post", .glo "_law_post", .glo "_law_span", .glo "_law_due", .glo "check_span", .meth "Ledger" "lines_of", .glo "statement", .glo "BankError", .free "isinstance", .free "ValueError", .glo "_law_class", .glo "_law_ask", .free "bool", .glo "_law_same", .glo "law"]
def faR : List He.Fa := faR0 ++ faR1
def sbL_0 : List (Nat × Bool) := [(0, true), (1, true), (2, true), (3, true), (5, true)]
def fa : List He.Fa := faR ++ (naFa clL flL naL ++ sbFa clL 0 sbL_0)
def fx0 : List Fx := [.val "SORTS" (.tup [(.str "asset"), (.str "debt"), (.str "equity"), (.str "income"), (.str "cost")]), .exk "BankError", .exk "BadValue", .exk "BadDay", .exk "Missing", .exk "Full", .isi "BankError" "BadDay" false, .isi "BadValue" "BadDay" false, .isi "BadDay" "BadDay" true, .isi "Missing" "BadDay" false, .isi "Full" "BadDay" false, .isi "BankError" "Missing" false, .isi "BadValue" "Missing" false, .isi "BadDay" "Missing" false, .isi "Missing" "Missing" true, .isi "Full" "Missing" false, .isv "BankError" true, .isv "BadValue" true, .isv "BadDay" true, .isv "Missing" true, .isv "Full" true]
def fx : List Fx := fx0
abbrev TX (K : PySem.W.Frag) (mg : Str → Option Value) : Prop := Txt fa fn fx K mg
theorem fl_ok : nmB flL = true := by decide +kernel
theorem inj {K : PySem.W.Frag} : FnInj (tg K) := fnInj_of fl_ok
theorem bad__account {K : PySem.W.Frag} : ∀ f, (tg K).fn f = "_account" → (none : Option Nat) = some f := badOf_ok fl_ok (by decide +kernel) (by decide +kernel)
theorem bad__add {K : PySem.W.Frag} : ∀ f, (tg K).fn f = "_add" → (none : Option Nat) = some f := badOf_ok fl_ok (by decide +kernel) (by decide +kernel)
theorem bad__check_head {K : PySem.W.Frag} : ∀ f, (tg K).fn f = "_check_head" → (none : Option Nat) = some f := badOf_ok fl_ok (by decide +kernel) (by decide +kernel)
theorem bad__check_lines {K : PySem.W.Frag} : ∀ f, (tg K).fn f = "_check_lines" → (none : Option Nat) = some f := badOf_ok fl_ok (by decide +kernel) (by decide +kernel)
theorem bad_currency_of {K : PySem.W.Frag} : ∀ f, (tg K).fn f = "currency_of" → (none : Option Nat) = some f := badOf_ok fl_ok (by decide +kernel) (by decide +kernel)
theorem bad_lines_of {K : PySem.W.Frag} : ∀ f, (tg K).fn f = "lines_of" → (none : Option Nat) = some f := badOf_ok fl_ok (by decide +kernel) (by decide +kernel)
theorem bad_open_account {K : PySem.W.Frag} : ∀ f, (tg K).fn f = "open_account" → (none : Option Nat) = some f := badOf_ok fl_ok (by decide +kernel) (by decide +kernel)
theorem bad_post {K : PySem.W.Frag} : ∀ f, (tg K).fn f = "post" → (none : Option Nat) = some f := badOf_ok fl_ok (by decide +kernel) (by decide +kernel)
section
variable {K : PySem.W.Frag} {mg : Str → Option Value} (T : TX K mg)
include T
theorem na_T : NaOk K (tg K) na := na_ok T (l := naL) fun f hf => List.mem_append_right _ (List.mem_append_left _ (hf))
theorem sb0_T : ∀ c b, sb_0 c = some b → PySem.W.exmOne K (.ref ((tg K).ca c)) (.ref ((tg K).ca 0)) = some b := sb_ok T (l := sbL_0) fun f hf => List.mem_append_right _ (List.mem_append_right _ hf)
theorem g_int : mg "int" = none := T.free 0
theorem g_range : mg "range" = none := T.free 1
theorem g__law_numbers : mg "_law_numbers" = some (.ref (He.ga K "_law_numbers")) := T.glo 2
theorem g_len : mg "len" = none := T.free 3
theorem mk_Ledger : Mk K (He.ga K "Ledger") (He.ma K (He.ga K "Ledger") "__init__") := T.mkr 4
theorem g_Ledger : mg "Ledger" = some (.ref (He.ga K "Ledger")) := T.glo 5
theorem ec_BadValue : ExcOk K (He.ga K "BadValue") := T.exc 6
theorem g_BadValue : mg "BadValue" = some (.ref (He.ga K "BadValue")) := T.glo 7
theorem g_check_currency : mg "check_currency" = some (.ref (He.ga K "check_currency")) := T.glo 8
theorem g_MOST_ACCOUNTS : ∃ t, mg "MOST_ACCOUNTS" = some (.int 200 t) := T.int 9
theorem ec_Full : ExcOk K (He.ga K "Full") := T.exc 10
theorem g_Full : mg "Full" = some (.ref (He.ga K "Full")) := T.glo 11
theorem mt_Ledger_open_account : Meth K (He.ga K "Ledger") "open_account" (He.ma K (He.ga K "Ledger") "open_account") := T.meth 12
theorem cl_Ledger : Cls K (He.ga K "Ledger") := T.cls (List.mem_append_left _ (List.mem_of_getElem? (i := 13) rfl))
theorem g__law_books : mg "_law_books" = some (.ref (He.ga K "_law_books")) := T.glo 14
theorem g_min : mg "min" = none := T.free 15
theorem g_max : mg "max" = none := T.free 16
theorem g_LAST_DAY : ∃ t, mg "LAST_DAY" = some (.int 36524 t) := T.int 17
theorem g_is_day : mg "is_day" = some (.ref (He.ga K "is_day")) := T.glo 18
theorem ec_BadDay : ExcOk K (He.ga K "BadDay") := T.exc 19
theorem g_BadDay : mg "BadDay" = some (.ref (He.ga K "BadDay")) := T.glo 20
theorem mt_Ledger__check_head : Meth K (He.ga K "Ledger") "_check_head" (He.ma K (He.ga K "Ledger") "_check_head") := T.meth 21
theorem ec_Missing : ExcOk K (He.ga K "Missing") := T.exc 22
theorem g_Missing : mg "Missing" = some (.ref (He.ga K "Missing")) := T.glo 23
theorem mt_Ledger__account : Meth K (He.ga K "Ledger") "_account" (He.ma K (He.ga K "Ledger") "_account") := T.meth 24
theorem mt_Ledger_currency_of : Meth K (He.ga K "Ledger") "currency_of" (He.ma K (He.ga K "Ledger") "currency_of") := T.meth 25
theorem g_GREATEST_UNITS : ∃ t, mg "GREATEST_UNITS" = some (.int 1000000000 t) := T.int 26
theorem mt_Ledger__check_lines : Meth K (He.ga K "Ledger") "_check_lines" (He.ma K (He.ga K "Ledger") "_check_lines") := T.meth 27
theorem g_MOST_ENTRIES : ∃ t, mg "MOST_ENTRIES" = some (.int 2000 t) := T.int 28
theorem g_tuple : mg "tuple" = none := T.free 29
theorem mt_Ledger__add : Meth K (He.ga K "Ledger") "_add" (He.ma K (He.ga K "Ledger") "_add") := T.meth 30
theorem g_list : mg "list" = none := T.free 31
theorem g_str : mg "str" = none := T.free 32
theorem mt_Ledger_post : Meth K (He.ga K "Ledger") "post" (He.ma K (He.ga K "Ledger") "post") := T.meth 33
theorem g__law_post : mg "_law_post" = some (.ref (He.ga K "_law_post")) := T.glo 34
theorem g__law_span : mg "_law_span" = some (.ref (He.ga K "_law_span")) := T.glo 35
theorem g__law_due : mg "_law_due" = some (.ref (He.ga K "_law_due")) := T.glo 36
theorem g_check_span : mg "check_span" = some (.ref (He.ga K "check_span")) := T.glo 37
theorem mt_Ledger_lines_of : Meth K (He.ga K "Ledger") "lines_of" (He.ma K (He.ga K "Ledger") "lines_of") := T.meth 38
theorem g_statement : mg "statement" = some (.ref (He.ga K "statement")) := T.glo 39
theorem g_BankError : mg "BankError" = some (.ref (He.ga K "BankError")) := T.glo 40
theorem g_isinstance : mg "isinstance" = none := T.free 41
theorem g_ValueError : mg "ValueError" = none := T.free 42
theorem g__law_class : mg "_law_class" = some (.ref (He.ga K "_law_class")) := T.glo 43
theorem g__law_ask : mg "_law_ask" = some (.ref (He.ga K "_law_ask")) := T.glo 44
theorem g_bool : mg "bool" = none := T.free 45
theorem g__law_same : mg "_law_same" = some (.ref (He.ga K "_law_same")) := T.glo 46
theorem g_law : mg "law" = some (.ref (He.ga K "law")) := T.glo 47
theorem g_SORTS : ∃ u, mg "SORTS" = some u ∧ ∃ v, RelV v u ∧ ∀ ρ H, RV K (tg K) ρ H c_SORTS v := T.val 0
end
theorem ish_BadDay : ∀ f ∈ isFx clL 2 tab_BadDay, f ∈ fx := fxSub (by decide +kernel)
theorem ish_Missing : ∀ f ∈ isFx clL 3 tab_Missing, f ∈ fx := fxSub (by decide +kernel)
theorem ivh : ∀ f ∈ ivFx clL tab_ValueError, f ∈ fx := fxSub (by decide +kernel)
theorem exh_BadDay : ∀ f ∈ exFx clL tab_BadDay, f ∈ fx := fxSub (by decide +kernel)
theorem exh_Missing : ∀ f ∈ exFx clL tab_Missing, f ∈ fx := fxSub (by decide +kernel)
theorem exh_ValueError : ∀ f ∈ exFx clL tab_ValueError, f ∈ fx := fxSub (by decide +kernel)
/-! ### the defs -/
section
variable {P : Program} {w : World} {K : PySem.W.Frag} {mg : Str → Option Value} {base : Heap}
def N_law_numbers : List Str := ["_law_cell", "_law_count", "_law_seed", "_law_rest", "_law_numbers_here", "_law_k", "_law_mixed"]
theorem S_law_numbers : FnScope N_law_numbers ["_law_cell", "_law_count"] (defScope (top 21)) := ⟨rfl, rfl, rfl, by decide +kernel, rfl, by decide +kernel, by decide +kernel⟩
def VI_law_numbers : List Nat := [0, 1, 2, 3, 4, 5, 6]
theorem V_law_numbers : visI (defScope (top 21)) N_law_numbers VI_law_numbers = true := by decide +kernel
def SI_law_numbers : List Nat := [2, 3, 4, 5, 6]
theorem ST_law_numbers : stoI (defScope (top 21)) (fun _ => true) N_law_numbers SI_law_numbers = true := by decide +kernel
def GL_law_numbers : List Str := ["int", "range"]
theorem G_law_numbers : glI (defScope (top 21)) GL_law_numbers = true := by decide +kernel
theorem f_law_numbers (T : TX K mg) : FnR P w K mg base 1 (He.ga K "_law_numbers") (spF K (tg K) m_law_numbers) := by
  refine fnR (x := "_law_numbers") (qual := "_law_numbers") (scope := d_law_numbers.scope) (body := d_law_numbers.body) (params := d_law_numbers.params) (N := N_law_numbers) (ps := ["_law_cell", "_law_count"]) (k := 0) (mb := b_law_numbers) (T.dfn (d := d_law_numbers) 0 rfl) S_law_numbers (fun _ _ _ _ _ _ us hl => match us, hl with | [_, _], _ => rfl) (fun cdv A outer s H E hr => ?_)
  exact (fss_cons (fs_st (is := SI_law_numbers) 2 S_law_numbers.nd ST_law_numbers (fe_op of_mul fe_int (fe_bt bt_int cf_int (glx (L := GL_law_numbers) (j := 0) G_law_numbers rfl) (g_int T) (fa_cons (fe_vr (is := VI_law_numbers) 0 V_law_numbers) fa_nil))))
    (fss_cons (fs_if (ft_cmp of_lt (fe_vr (is := VI_law_numbers) 2 V_law_numbers) fe_int rfl) (fss_one (fs_st (is := SI_law_numbers) 2 S_law_numbers.nd ST_law_numbers (fe_op of_sub (fe_op of_sub fe_int (fe_vr (is := VI_law_numbers) 2 V_law_numbers)) fe_int))) fss_nil)
    (fss_cons (fs_st (is := SI_law_numbers) 3 S_law_numbers.nd ST_law_numbers fe_int)
    (fss_cons (fs_if (ft_cmp of_ge (fe_vr (is := VI_law_numbers) 2 V_law_numbers) (fe_op of_pow fe_int fe_int) rfl) (fss_one (fs_st (is := SI_law_numbers) 3 S_law_numbers.nd ST_law_numbers (fe_vr (is := VI_law_numbers) 2 V_law_numbers))) fss_nil)
    (fss_cons (fs_st (is := SI_law_numbers) 4 S_law_numbers.nd ST_law_numbers (fe_lst fa_nil))
    (fss_cons (fs_for passD rfl (fi_rng1 (glx (L := GL_law_numbers) (j := 1) G_law_numbers rfl).gl (g_range T) (fa_cons (fe_vr (is := VI_law_numbers) 1 V_law_numbers) fa_nil)) (fg_nm (is := SI_law_numbers) 5 S_law_numbers.nd ST_law_numbers)
      (fss_one (fs_if (ft_cmp of_gt (fe_vr (is := VI_law_numbers) 3 V_law_numbers) fe_int rfl) (fss_cons (fs_expr (fe_append (fe_vr (is := VI_law_numbers) 4 V_law_numbers) (fa_cons (fe_op of_mod (fe_bt bt_int cf_int (glx (L := GL_law_numbers) (j := 0) G_law_numbers rfl) (g_int T) (fa_cons (fe_vr (is := VI_law_numbers) 3 V_law_numbers) fa_nil)) fe_int) fa_nil)))
    (fss_one (fs_st (is := SI_law_numbers) 3 S_law_numbers.nd ST_law_numbers (fe_op of_fdiv (fe_vr (is := VI_law_numbers) 3 V_law_numbers) fe_int)))) (fss_cons (fs_st (is := SI_law_numbers) 6 S_law_numbers.nd ST_law_numbers (fe_op of_mod (fe_bt bt_int cf_int (glx (L := GL_law_numbers) (j := 0) G_law_numbers rfl) (g_int T) (fa_cons (fe_op of_add (fe_op of_add (fe_op of_mul (fe_vr (is := VI_law_numbers) 2 V_law_numbers) fe_int) (fe_op of_mul (fe_vr (is := VI_law_numbers) 5 V_law_numbers) fe_int)) fe_int) fa_nil)) fe_int))
    (fss_cons (fs_st (is := SI_law_numbers) 6 S_law_numbers.nd ST_law_numbers (fe_op of_mul (fe_op of_mul (fe_op of_add (fe_op of_mod (fe_bt bt_int cf_int (glx (L := GL_law_numbers) (j := 0) G_law_numbers rfl) (g_int T) (fa_cons (fe_vr (is := VI_law_numbers) 6 V_law_numbers) fa_nil)) fe_int) fe_int) (fe_op of_add (fe_op of_add (fe_op of_fdiv (fe_vr (is := VI_law_numbers) 6 V_law_numbers) fe_int) (fe_op of_mul fe_int (fe_vr (is := VI_law_numbers) 5 V_law_numbers))) fe_int)) fe_int))
    (fss_one (fs_expr (fe_append (fe_vr (is := VI_law_numbers) 4 V_law_numbers) (fa_cons (fe_op of_fdiv (fe_op of_mod (fe_bt bt_int cf_int (glx (L := GL_law_numbers) (j := 0) G_law_numbers rfl) (g_int T) (fa_cons (fe_vr (is := VI_law_numbers) 6 V_law_numbers) fa_nil)) fe_int) fe_int) fa_nil)))))))))
    (fss_one (fs_ret (fe_vr (is := VI_law_numbers) 4 V_law_numbers)))))))))
def N_Ledger_init : List Str := ["self"]
theorem S_Ledger_init : FnScope N_Ledger_init ["self"] (defScope (inClass (top 19) 0)) := ⟨rfl, rfl, rfl, by decide +kernel, rfl, by decide +kernel, by decide +kernel⟩
def VI_Ledger_init : List Nat := [0]
theorem V_Ledger_init : visI (defScope (inClass (top 19) 0)) N_Ledger_init VI_Ledger_init = true := by decide +kernel
def SI_Ledger_init : List Nat := []
theorem ST_Ledger_init : stoI (defScope (inClass (top 19) 0)) (fun _ => true) N_Ledger_init SI_Ledger_init = true := by decide +kernel
def GL_Ledger_init : List Str := []
theorem G_Ledger_init : glI (defScope (inClass (top 19) 0)) GL_Ledger_init = true := by decide +kernel
theorem f_Ledger_init (T : TX K mg) : FnR P w K mg base 1 (He.ma K (He.ga K "Ledger") "__init__") (spF K (tg K) m_Ledger_init) := by
  refine fnR (x := "__init__") (qual := "Ledger.__init__") (scope := d_Ledger_init.scope) (body := d_Ledger_init.body) (params := d_Ledger_init.params) (N := N_Ledger_init) (ps := ["self"]) (k := 0) (mb := b_Ledger_init) (T.dfn (d := d_Ledger_init) 1 rfl) S_Ledger_init (fun _ _ _ _ _ _ us hl => match us, hl with | [_], _ => rfl) (fun cdv A outer s H E hr => ?_)
  exact (fss_cons (fs_fld (f := 13) rfl inj (na_T T) (fe_vr (is := VI_Ledger_init) 0 V_Ledger_init) (fe_lst fa_nil))
    (fss_cons (fs_fld (f := 14) rfl inj (na_T T) (fe_vr (is := VI_Ledger_init) 0 V_Ledger_init) (fe_lst fa_nil))
    (fss_cons (fs_fld (f := 15) rfl inj (na_T T) (fe_vr (is := VI_Ledger_init) 0 V_Ledger_init) (fe_lst fa_nil))
    (fss_one (fs_fld (f := 16) rfl inj (na_T T) (fe_vr (is := VI_Ledger_init) 0 V_Ledger_init) fe_dct0)))))
def N_check_currency : List Str := ["currency", "sign"]
theorem S_check_currency : FnScope N_check_currency ["currency"] (defScope (top 18)) := ⟨rfl, rfl, rfl, by decide +kernel, rfl, by decide +kernel, by decide +kernel⟩
def VI_check_currency : List Nat := [0, 1]
theorem V_check_currency : visI (defScope (top 18)) N_check_currency VI_check_currency = true := by decide +kernel
def SI_check_currency : List Nat := [1]
theorem ST_check_currency : stoI (defScope (top 18)) (fun _ => true) N_check_currency SI_check_currency = true := by decide +kernel
def GL_check_currency : List Str := ["len", "BadValue"]
theorem G_check_currency : glI (defScope (top 18)) GL_check_currency = true := by decide +kernel
theorem f_check_currency (T : TX K mg) : FnR P w K mg base 1 (He.ga K "check_currency") (spF K (tg K) m_check_currency) := by
  refine fnR (x := "check_currency") (qual := "check_currency") (scope := d_check_currency.scope) (body := d_check_currency.body) (params := d_check_currency.params) (N := N_check_currency) (ps := ["currency"]) (k := 0) (mb := b_check_currency) (T.dfn (d := d_check_currency) 2 rfl) S_check_currency (fun _ _ _ _ _ _ us hl => match us, hl with | [_], _ => rfl) (fun cdv A outer s H E hr => ?_)
  exact (fss_cons (fs_if (ft_cmp (of_ne (hr.units)) (fe_bb bt_len cf_len (glx (L := GL_check_currency) (j := 0) G_check_currency rfl) (g_len T) (fa_cons (fe_vr (is := VI_check_currency) 0 V_check_currency) fa_nil)) fe_int rfl) (fss_one (fs_ra (c := 1) rfl takesD (ec_BadValue T) (glx (L := GL_check_currency) (j := 1) G_check_currency rfl) (g_BadValue T))) fss_nil)
    (fss_one (fs_for passD rfl (fi_seq (fe_vr (is := VI_check_currency) 0 V_check_currency)) (fg_nm (is := SI_check_currency) 1 S_check_currency.nd ST_check_currency)
      (fss_one (fs_if (ft_not (ft_chain of_le of_le fe_str (fe_vr (is := VI_check_currency) 1 V_check_currency) fe_str)) (fss_one (fs_ra (c := 1) rfl takesD (ec_BadValue T) (glx (L := GL_check_currency) (j := 1) G_check_currency rfl) (g_BadValue T))) fss_nil)))))
def N_Ledger_open_account : List Str := ["self", "currency", "sort"]
theorem S_Ledger_open_account : FnScope N_Ledger_open_account ["self", "currency", "sort"] (defScope (inClass (top 19) 3)) := ⟨rfl, rfl, rfl, by decide +kernel, rfl, by decide +kernel, by decide +kernel⟩
def VI_Ledger_open_account : List Nat := [0, 1, 2]
theorem V_Ledger_open_account : visI (defScope (inClass (top 19) 3)) N_Ledger_open_account VI_Ledger_open_account = true := by decide +kernel
def SI_Ledger_open_account : List Nat := []
theorem ST_Ledger_open_account : stoI (defScope (inClass (top 19) 3)) (fun _ => true) N_Ledger_open_account SI_Ledger_open_account = true := by decide +kernel
def GL_Ledger_open_account : List Str := ["check_currency", "SORTS", "BadValue", "len", "MOST_ACCOUNTS", "Full"]
theorem G_Ledger_open_account : glI (defScope (inClass (top 19) 3)) GL_Ledger_open_account = true := by decide +kernel
theorem f_Ledger_open_account (T : TX K mg) : FnR P w K mg base 2 (He.ma K (He.ga K "Ledger") "open_account") (spF K (tg K) m_Ledger_open_account) := by
  refine fnR (x := "open_account") (qual := "Ledger.open_account") (scope := d_Ledger_open_account.scope) (body := d_Ledger_open_account.body) (params := d_Ledger_open_account.params) (N := N_Ledger_open_account) (ps := ["self", "currency", "sort"]) (k := 1) (mb := b_Ledger_open_account) (T.dfn (d := d_Ledger_open_account) 3 rfl) S_Ledger_open_account (fun _ _ _ _ _ _ us hl => match us, hl with | [_, _, _], _ => rfl) (fun cdv A outer s H E hr => ?_)
  exact (fss_cons (fs_expr (fe_ca (FnR.cal (f_check_currency T) (hr.mono (by decide))) (glx (L := GL_Ledger_open_account) (j := 0) G_Ledger_open_account rfl) (g_check_currency T) takesD (fa_cons (fe_vr (is := VI_Ledger_open_account) 1 V_Ledger_open_account) fa_nil)))
    (fss_cons (fs_if (ft_cmp (of_notIn (hu_of hr)) (fe_vr (is := VI_Ledger_open_account) 2 V_Ledger_open_account) (fe_gv (glx (L := GL_Ledger_open_account) (j := 1) G_Ledger_open_account rfl) (g_SORTS T)) rfl) (fss_one (fs_ra (c := 1) rfl takesD (ec_BadValue T) (glx (L := GL_Ledger_open_account) (j := 2) G_Ledger_open_account rfl) (g_BadValue T))) fss_nil)
    (fss_cons (fs_if (ft_cmp of_ge (fe_bb bt_len cf_len (glx (L := GL_Ledger_open_account) (j := 3) G_Ledger_open_account rfl) (g_len T) (fa_cons (fe_fld (f := 13) rfl inj (na_T T) (fe_vr (is := VI_Ledger_open_account) 0 V_Ledger_open_account)) fa_nil)) (fe_gi (glx (L := GL_Ledger_open_account) (j := 4) G_Ledger_open_account rfl) (g_MOST_ACCOUNTS T)) rfl) (fss_one (fs_ra (c := 5) rfl takesD (ec_Full T) (glx (L := GL_Ledger_open_account) (j := 5) G_Ledger_open_account rfl) (g_Full T))) fss_nil)
    (fss_cons (fs_expr (fe_append (fe_fld (f := 13) rfl inj (na_T T) (fe_vr (is := VI_Ledger_open_account) 0 V_Ledger_open_account)) (fa_cons (fe_tup (fa_cons (fe_vr (is := VI_Ledger_open_account) 1 V_Ledger_open_account) (fa_cons (fe_vr (is := VI_Ledger_open_account) 2 V_Ledger_open_account) fa_nil))) fa_nil)))
    (fss_cons (fs_expr (fe_append (fe_fld (f := 14) rfl inj (na_T T) (fe_vr (is := VI_Ledger_open_account) 0 V_Ledger_open_account)) (fa_cons (fe_lst fa_nil) fa_nil)))
    (fss_one (fs_ret (fe_bb bt_len cf_len (glx (L := GL_Ledger_open_account) (j := 3) G_Ledger_open_account rfl) (g_len T) (fa_cons (fe_fld (f := 13) rfl inj (na_T T) (fe_vr (is := VI_Ledger_open_account) 0 V_Ledger_open_account)) fa_nil)))))))))
def N_law_books : List Str := ["_law_numbers_here", "_law_ledger", "_law_count", "_law_lines", "_law_k"]
theorem S_law_books : FnScope N_law_books ["_law_numbers_here"] (defScope (top 24)) := ⟨rfl, rfl, rfl, by decide +kernel, rfl, by decide +kernel, by decide +kernel⟩
def VI_law_books : List Nat := [0, 1, 2, 3, 4]
theorem V_law_books : visI (defScope (top 24)) N_law_books VI_law_books = true := by decide +kernel
def SI_law_books : List Nat := [1, 2, 3, 4]
theorem ST_law_books : stoI (defScope (top 24)) (fun _ => true) N_law_books SI_law_books = true := by decide +kernel
def GL_law_books : List Str := ["Ledger", "int", "range"]
theorem G_law_books : glI (defScope (top 24)) GL_law_books = true := by decide +kernel
theorem f_law_books (T : TX K mg) : FnR P w K mg base 3 (He.ga K "_law_books") (spF K (tg K) m_law_books) := by
  refine fnR (x := "_law_books") (qual := "_law_books") (scope := d_law_books.scope) (body := d_law_books.body) (params := d_law_books.params) (N := N_law_books) (ps := ["_law_numbers_here"]) (k := 2) (mb := b_law_books) (T.dfn (d := d_law_books) 4 rfl) S_law_books (fun _ _ _ _ _ _ us hl => match us, hl with | [_], _ => rfl) (fun cdv A outer s H E hr => ?_)
  exact (fss_cons (fs_st (is := SI_law_books) 1 S_law_books.nd ST_law_books (fe_mk0 (c := 10) (mk_Ledger T) (f_Ledger_init T) (hr.mono (by decide)) takesD (glx (L := GL_law_books) (j := 0) G_law_books rfl) (g_Ledger T)))
    (fss_cons (fs_st (is := SI_law_books) 2 S_law_books.nd ST_law_books (fe_op of_add fe_int (fe_op of_mod (fe_bt bt_int cf_int (glx (L := GL_law_books) (j := 1) G_law_books rfl) (g_int T) (fa_cons (fe_ix (hu_of hr) (fe_vr (is := VI_law_books) 0 V_law_books) fe_int) fa_nil)) fe_int)))
    (fss_cons (fs_st (is := SI_law_books) 3 S_law_books.nd ST_law_books (fe_lst fa_nil))
    (fss_cons (fs_for passD rfl (fi_rng1 (glx (L := GL_law_books) (j := 2) G_law_books rfl).gl (g_range T) (fa_cons (fe_vr (is := VI_law_books) 2 V_law_books) fa_nil)) (fg_nm (is := SI_law_books) 4 S_law_books.nd ST_law_books)
      (fss_cons (fs_expr (fe_meth (c := 10) (bad := none) (FnR.cal (f_Ledger_open_account T) (hr.mono (by decide))) (cl_Ledger T) (mt_Ledger_open_account T) inj (bad_open_account) takesD (fe_vr (is := VI_law_books) 1 V_law_books) (fa_cons fe_str (fa_cons (fe_ix (hu_of hr) (fe_tup (fa_cons fe_str (fa_cons fe_str (fa_cons fe_str (fa_cons fe_str (fa_cons fe_str fa_nil)))))) (fe_op of_mod (fe_bt bt_int cf_int (glx (L := GL_law_books) (j := 1) G_law_books rfl) (g_int T) (fa_cons (fe_op of_add (fe_ix (hu_of hr) (fe_vr (is := VI_law_books) 0 V_law_books) fe_int) (fe_vr (is := VI_law_books) 4 V_law_books)) fa_nil)) fe_int)) fa_nil))))
    (fss_one (fs_expr (fe_append (fe_vr (is := VI_law_books) 3 V_law_books) (fa_cons (fe_lst fa_nil) fa_nil))))))
    (fss_one (fs_ret (fe_tup (fa_cons (fe_vr (is := VI_law_books) 1 V_law_books) (fa_cons (fe_vr (is := VI_law_books) 3 V_law_books) fa_nil)))))))))
def N_is_day : List Str := ["number"]
theorem S_is_day : FnScope N_is_day ["number"] (defScope (top 9)) := ⟨rfl, rfl, rfl, by decide +kernel, rfl, by decide +kernel, by decide +kernel⟩
def VI_is_day : List Nat := [0]
theorem V_is_day : visI (defScope (top 9)) N_is_day VI_is_day = true := by decide +kernel
def SI_is_day : List Nat := []
theorem ST_is_day : stoI (defScope (top 9)) (fun _ => true) N_is_day SI_is_day = true := by decide +kernel
def GL_is_day : List Str := ["LAST_DAY"]
theorem G_is_day : glI (defScope (top 9)) GL_is_day = true := by decide +kernel
theorem f_is_day (T : TX K mg) : FnR P w K mg base 1 (He.ga K "is_day") (spF K (tg K) m_is_day) := by
  refine fnR (x := "is_day") (qual := "is_day") (scope := d_is_day.scope) (body := d_is_day.body) (params := d_is_day.params) (N := N_is_day) (ps := ["number"]) (k := 0) (mb := b_is_day) (T.dfn (d := d_is_day) 5 rfl) S_is_day (fun _ _ _ _ _ _ us hl => match us, hl with | [_], _ => rfl) (fun cdv A outer s H E hr => ?_)
  exact (fss_one (fs_ret (fe_chain of_le of_le fe_int (fe_vr (is := VI_is_day) 0 V_is_day) (fe_gi (glx (L := GL_is_day) (j := 0) G_is_day rfl) (g_LAST_DAY T)))))
def N_Ledger_check_head : List Str := ["self", "day", "value", "cause"]
theorem S_Ledger_check_head : FnScope N_Ledger_check_head ["self", "day", "value", "cause"] (defScope (inClass (top 19) 6)) := ⟨rfl, rfl, rfl, by decide +kernel, rfl, by decide +kernel, by decide +kernel⟩
def VI_Ledger_check_head : List Nat := [0, 1, 2, 3]
theorem V_Ledger_check_head : visI (defScope (inClass (top 19) 6)) N_Ledger_check_head VI_Ledger_check_head = true := by decide +kernel
def SI_Ledger_check_head : List Nat := []
theorem ST_Ledger_check_head : stoI (defScope (inClass (top 19) 6)) (fun _ => true) N_Ledger_check_head SI_Ledger_check_head = true := by decide +kernel
def GL_Ledger_check_head : List Str := ["is_day", "BadDay", "len", "BadValue"]
theorem G_Ledger_check_head : glI (defScope (inClass (top 19) 6)) GL_Ledger_check_head = true := by decide +kernel
theorem f_Ledger_check_head (T : TX K mg) : FnR P w K mg base 2 (He.ma K (He.ga K "Ledger") "_check_head") (spF K (tg K) m_Ledger_check_head) := by
  refine fnR (x := "_check_head") (qual := "Ledger._check_head") (scope := d_Ledger_check_head.scope) (body := d_Ledger_check_head.body) (params := d_Ledger_check_head.params) (N := N_Ledger_check_head) (ps := ["self", "day", "value", "cause"]) (k := 1) (mb := b_Ledger_check_head) (T.dfn (d := d_Ledger_check_head) 6 rfl) S_Ledger_check_head (fun _ _ _ _ _ _ us hl => match us, hl with | [_, _, _, _], _ => rfl) (fun cdv A outer s H E hr => ?_)
  exact (fss_cons (fs_if (PW.pt (fw_or (ft_not (ft_tru (fe_ca (FnR.cal (f_is_day T) (hr.mono (by decide))) (glx (L := GL_Ledger_check_head) (j := 0) G_Ledger_check_head rfl) (g_is_day T) takesD (fa_cons (fe_vr (is := VI_Ledger_check_head) 1 V_Ledger_check_head) fa_nil)))) (fw_or1 (ft_not (ft_tru (fe_ca (FnR.cal (f_is_day T) (hr.mono (by decide))) (glx (L := GL_Ledger_check_head) (j := 0) G_Ledger_check_head rfl) (g_is_day T) takesD (fa_cons (fe_vr (is := VI_Ledger_check_head) 2 V_Ledger_check_head) fa_nil))))))) (fss_one (fs_ra (c := 2) rfl takesD (ec_BadDay T) (glx (L := GL_Ledger_check_head) (j := 1) G_Ledger_check_head rfl) (g_BadDay T))) fss_nil)
    (fss_cons (fs_if (PW.pt (fw_and (ft_tru (fe_fld (f := 15) rfl inj (na_T T) (fe_vr (is := VI_Ledger_check_head) 0 V_Ledger_check_head))) (fw_and1 (ft_cmp of_lt (fe_vr (is := VI_Ledger_check_head) 1 V_Ledger_check_head) (fe_ix (hu_of hr) (fe_ix (hu_of hr) (fe_fld (f := 15) rfl inj (na_T T) (fe_vr (is := VI_Ledger_check_head) 0 V_Ledger_check_head)) (fe_neg fe_int)) fe_int) rfl)))) (fss_one (fs_ra (c := 2) rfl takesD (ec_BadDay T) (glx (L := GL_Ledger_check_head) (j := 1) G_Ledger_check_head rfl) (g_BadDay T))) fss_nil)
    (fss_one (fs_if (ft_cmp of_gt (fe_bb bt_len cf_len (glx (L := GL_Ledger_check_head) (j := 2) G_Ledger_check_head rfl) (g_len T) (fa_cons (fe_vr (is := VI_Ledger_check_head) 3 V_Ledger_check_head) fa_nil)) fe_int rfl) (fss_one (fs_ra (c := 1) rfl takesD (ec_BadValue T) (glx (L := GL_Ledger_check_head) (j := 3) G_Ledger_check_head rfl) (g_BadValue T))) fss_nil))))
def N_Ledger_account : List Str := ["self", "account"]
theorem S_Ledger_account : FnScope N_Ledger_account ["self", "account"] (defScope (inClass (top 19) 10)) := ⟨rfl, rfl, rfl, by decide +kernel, rfl, by decide +kernel, by decide +kernel⟩
def VI_Ledger_account : List Nat := [0, 1]
theorem V_Ledger_account : visI (defScope (inClass (top 19) 10)) N_Ledger_account VI_Ledger_account = true := by decide +kernel
def SI_Ledger_account : List Nat := []
theorem ST_Ledger_account : stoI (defScope (inClass (top 19) 10)) (fun _ => true) N_Ledger_account SI_Ledger_account = true := by decide +kernel
def GL_Ledger_account : List Str := ["len", "Missing"]
theorem G_Ledger_account : glI (defScope (inClass (top 19) 10)) GL_Ledger_account = true := by decide +kernel
theorem f_Ledger_account (T : TX K mg) : FnR P w K mg base 1 (He.ma K (He.ga K "Ledger") "_account") (spF K (tg K) m_Ledger_account) := by
  refine fnR (x := "_account") (qual := "Ledger._account") (scope := d_Ledger_account.scope) (body := d_Ledger_account.body) (params := d_Ledger_account.params) (N := N_Ledger_account) (ps := ["self", "account"]) (k := 0) (mb := b_Ledger_account) (T.dfn (d := d_Ledger_account) 7 rfl) S_Ledger_account (fun _ _ _ _ _ _ us hl => match us, hl with | [_, _], _ => rfl) (fun cdv A outer s H E hr => ?_)
  exact (fss_cons (fs_if (ft_not (ft_chain of_le of_le fe_int (fe_vr (is := VI_Ledger_account) 1 V_Ledger_account) (fe_bb bt_len cf_len (glx (L := GL_Ledger_account) (j := 0) G_Ledger_account rfl) (g_len T) (fa_cons (fe_fld (f := 13) rfl inj (na_T T) (fe_vr (is := VI_Ledger_account) 0 V_Ledger_account)) fa_nil)))) (fss_one (fs_ra (c := 3) rfl takesD (ec_Missing T) (glx (L := GL_Ledger_account) (j := 1) G_Ledger_account rfl) (g_Missing T))) fss_nil)
    (fss_one (fs_ret (fe_ix (hu_of hr) (fe_fld (f := 13) rfl inj (na_T T) (fe_vr (is := VI_Ledger_account) 0 V_Ledger_account)) (fe_op of_sub (fe_vr (is := VI_Ledger_account) 1 V_Ledger_account) fe_int)))))
def N_Ledger_currency_of : List Str := ["self", "account"]
theorem S_Ledger_currency_of : FnScope N_Ledger_currency_of ["self", "account"] (defScope (inClass (top 19) 11)) := ⟨rfl, rfl, rfl, by decide +kernel, rfl, by decide +kernel, by decide +kernel⟩
def VI_Ledger_currency_of : List Nat := [0, 1]
theorem V_Ledger_currency_of : visI (defScope (inClass (top 19) 11)) N_Ledger_currency_of VI_Ledger_currency_of = true := by decide +kernel
def SI_Ledger_currency_of : List Nat := []
theorem ST_Ledger_currency_of : stoI (defScope (inClass (top 19) 11)) (fun _ => true) N_Ledger_currency_of SI_Ledger_currency_of = true := by decide +kernel
def GL_Ledger_currency_of : List Str := []
theorem G_Ledger_currency_of : glI (defScope (inClass (top 19) 11)) GL_Ledger_currency_of = true := by decide +kernel
theorem f_Ledger_currency_of (T : TX K mg) : FnR P w K mg base 2 (He.ma K (He.ga K "Ledger") "currency_of") (spF K (tg K) m_Ledger_currency_of) := by
  refine fnR (x := "currency_of") (qual := "Ledger.currency_of") (scope := d_Ledger_currency_of.scope) (body := d_Ledger_currency_of.body) (params := d_Ledger_currency_of.params) (N := N_Ledger_currency_of) (ps := ["self", "account"]) (k := 1) (mb := b_Ledger_currency_of) (T.dfn (d := d_Ledger_currency_of) 8 rfl) S_Ledger_currency_of (fun _ _ _ _ _ _ us hl => match us, hl with | [_, _], _ => rfl) (fun cdv A outer s H E hr => ?_)
  exact (fss_one (fs_ret (fe_ix (hu_of hr) (fe_meth (c := 10) (bad := none) (FnR.cal (f_Ledger_account T) (hr.mono (by decide))) (cl_Ledger T) (mt_Ledger__account T) inj (bad__account) takesD (fe_vr (is := VI_Ledger_currency_of) 0 V_Ledger_currency_of) (fa_cons (fe_vr (is := VI_Ledger_currency_of) 1 V_Ledger_currency_of) fa_nil)) fe_int)))
def N_Ledger_check_lines : List Str := ["self", "lines", "sums", "account", "units", "currency"]
theorem S_Ledger_check_lines : FnScope N_Ledger_check_lines ["self", "lines"] (defScope (inClass (top 19) 7)) := ⟨rfl, rfl, rfl, by decide +kernel, rfl, by decide +kernel, by decide +kernel⟩
def VI_Ledger_check_lines : List Nat := [0, 1, 2, 3, 4, 5]
theorem V_Ledger_check_lines : visI (defScope (inClass (top 19) 7)) N_Ledger_check_lines VI_Ledger_check_lines = true := by decide +kernel
def SI_Ledger_check_lines : List Nat := [2, 3, 4, 5]
theorem ST_Ledger_check_lines : stoI (defScope (inClass (top 19) 7)) (fun _ => true) N_Ledger_check_lines SI_Ledger_check_lines = true := by decide +kernel
def GL_Ledger_check_lines : List Str := ["len", "BadValue", "GREATEST_UNITS"]
theorem G_Ledger_check_lines : glI (defScope (inClass (top 19) 7)) GL_Ledger_check_lines = true := by decide +kernel
theorem f_Ledger_check_lines (T : TX K mg) : FnR P w K mg base 3 (He.ma K (He.ga K "Ledger") "_check_lines") (spF K (tg K) m_Ledger_check_lines) := by
  refine fnR (x := "_check_lines") (qual := "Ledger._check_lines") (scope := d_Ledger_check_lines.scope) (body := d_Ledger_check_lines.body) (params := d_Ledger_check_lines.params) (N := N_Ledger_check_lines) (ps := ["self", "lines"]) (k := 2) (mb := b_Ledger_check_lines) (T.dfn (d := d_Ledger_check_lines) 9 rfl) S_Ledger_check_lines (fun _ _ _ _ _ _ us hl => match us, hl with | [_, _], _ => rfl) (fun cdv A outer s H E hr => ?_)
  exact (fss_cons (fs_if (ft_not (ft_chain of_le of_le fe_int (fe_bb bt_len cf_len (glx (L := GL_Ledger_check_lines) (j := 0) G_Ledger_check_lines rfl) (g_len T) (fa_cons (fe_vr (is := VI_Ledger_check_lines) 1 V_Ledger_check_lines) fa_nil)) fe_int)) (fss_one (fs_ra (c := 1) rfl takesD (ec_BadValue T) (glx (L := GL_Ledger_check_lines) (j := 1) G_Ledger_check_lines rfl) (g_BadValue T))) fss_nil)
    (fss_cons (fs_st (is := SI_Ledger_check_lines) 2 S_Ledger_check_lines.nd ST_Ledger_check_lines fe_dct0)
    (fss_cons (fs_for passD rfl (fi_seq (fe_vr (is := VI_Ledger_check_lines) 1 V_Ledger_check_lines)) (fg_tup rfl (fgs_cons (fg_nm (is := SI_Ledger_check_lines) 3 S_Ledger_check_lines.nd ST_Ledger_check_lines) (fgs_cons (fg_nm (is := SI_Ledger_check_lines) 4 S_Ledger_check_lines.nd ST_Ledger_check_lines) fgs_nil)))
      (fss_cons (fs_st (is := SI_Ledger_check_lines) 5 S_Ledger_check_lines.nd ST_Ledger_check_lines (fe_meth (c := 10) (bad := none) (FnR.cal (f_Ledger_currency_of T) (hr.mono (by decide))) (cl_Ledger T) (mt_Ledger_currency_of T) inj (bad_currency_of) takesD (fe_vr (is := VI_Ledger_check_lines) 0 V_Ledger_check_lines) (fa_cons (fe_vr (is := VI_Ledger_check_lines) 3 V_Ledger_check_lines) fa_nil)))
    (fss_cons (fs_if (PW.pt (fw_or (ft_cmp (of_eq (hr.units)) (fe_vr (is := VI_Ledger_check_lines) 4 V_Ledger_check_lines) fe_int rfl) (fw_or1 (ft_not (ft_chain of_le of_le (fe_op of_sub fe_int (fe_gi (glx (L := GL_Ledger_check_lines) (j := 2) G_Ledger_check_lines rfl) (g_GREATEST_UNITS T))) (fe_vr (is := VI_Ledger_check_lines) 4 V_Ledger_check_lines) (fe_gi (glx (L := GL_Ledger_check_lines) (j := 2) G_Ledger_check_lines rfl) (g_GREATEST_UNITS T))))))) (fss_one (fs_ra (c := 1) rfl takesD (ec_BadValue T) (glx (L := GL_Ledger_check_lines) (j := 1) G_Ledger_check_lines rfl) (g_BadValue T))) fss_nil)
    (fss_one (fs_sub (hu_of hr) (fe_vr (is := VI_Ledger_check_lines) 2 V_Ledger_check_lines) (fe_vr (is := VI_Ledger_check_lines) 5 V_Ledger_check_lines) (fe_op of_add (fe_g2 (hu_of hr) (fe_vr (is := VI_Ledger_check_lines) 2 V_Ledger_check_lines) (fe_vr (is := VI_Ledger_check_lines) 5 V_Ledger_check_lines) fe_int) (fe_vr (is := VI_Ledger_check_lines) 4 V_Ledger_check_lines)))))))
    (fss_one (fs_fk (is := VI_Ledger_check_lines) 2 passD rfl V_Ledger_check_lines (fg_nm (is := SI_Ledger_check_lines) 5 S_Ledger_check_lines.nd ST_Ledger_check_lines) (fss_one (fs_if (ft_cmp (of_ne (hr.units)) (fe_ix (hu_of hr) (fe_vr (is := VI_Ledger_check_lines) 2 V_Ledger_check_lines) (fe_vr (is := VI_Ledger_check_lines) 5 V_Ledger_check_lines)) fe_int rfl) (fss_one (fs_ra (c := 1) rfl takesD (ec_BadValue T) (glx (L := GL_Ledger_check_lines) (j := 1) G_Ledger_check_lines rfl) (g_BadValue T))) fss_nil)))))))
def N_Ledger_add : List Str := ["self", "day", "value", "cause", "lines", "reverses", "number", "account", "units", "kept"]
theorem S_Ledger_add : FnScope N_Ledger_add ["self", "day", "value", "cause", "lines", "reverses"] (defScope (inClass (top 19) 8)) := ⟨rfl, rfl, rfl, by decide +kernel, rfl, by decide +kernel, by decide +kernel⟩
def VI_Ledger_add : List Nat := [0, 1, 2, 3, 4, 5, 6, 7, 8, 9]
theorem V_Ledger_add : visI (defScope (inClass (top 19) 8)) N_Ledger_add VI_Ledger_add = true := by decide +kernel
def SI_Ledger_add : List Nat := [6, 7, 8, 9]
theorem ST_Ledger_add : stoI (defScope (inClass (top 19) 8)) (fun _ => true) N_Ledger_add SI_Ledger_add = true := by decide +kernel
def GL_Ledger_add : List Str := ["len", "MOST_ENTRIES", "Full", "tuple"]
theorem G_Ledger_add : glI (defScope (inClass (top 19) 8)) GL_Ledger_add = true := by decide +kernel
theorem f_Ledger_add (T : TX K mg) : FnR P w K mg base 1 (He.ma K (He.ga K "Ledger") "_add") (spF K (tg K) m_Ledger_add) := by
  refine fnR (x := "_add") (qual := "Ledger._add") (scope := d_Ledger_add.scope) (body := d_Ledger_add.body) (params := d_Ledger_add.params) (N := N_Ledger_add) (ps := ["self", "day", "value", "cause", "lines", "reverses"]) (k := 0) (mb := b_Ledger_add) (T.dfn (d := d_Ledger_add) 10 rfl) S_Ledger_add (fun _ _ _ _ _ _ us hl => match us, hl with | [_, _, _, _, _, _], _ => rfl) (fun cdv A outer s H E hr => ?_)
  exact (fss_cons (fs_if (ft_cmp of_ge (fe_bb bt_len cf_len (glx (L := GL_Ledger_add) (j := 0) G_Ledger_add rfl) (g_len T) (fa_cons (fe_fld (f := 15) rfl inj (na_T T) (fe_vr (is := VI_Ledger_add) 0 V_Ledger_add)) fa_nil)) (fe_gi (glx (L := GL_Ledger_add) (j := 1) G_Ledger_add rfl) (g_MOST_ENTRIES T)) rfl) (fss_one (fs_ra (c := 5) rfl takesD (ec_Full T) (glx (L := GL_Ledger_add) (j := 2) G_Ledger_add rfl) (g_Full T))) fss_nil)
    (fss_cons (fs_st (is := SI_Ledger_add) 6 S_Ledger_add.nd ST_Ledger_add (fe_op of_add (fe_bb bt_len cf_len (glx (L := GL_Ledger_add) (j := 0) G_Ledger_add rfl) (g_len T) (fa_cons (fe_fld (f := 15) rfl inj (na_T T) (fe_vr (is := VI_Ledger_add) 0 V_Ledger_add)) fa_nil)) fe_int))
    (fss_cons (fs_for passD rfl (fi_seq (fe_vr (is := VI_Ledger_add) 4 V_Ledger_add)) (fg_tup rfl (fgs_cons (fg_nm (is := SI_Ledger_add) 7 S_Ledger_add.nd ST_Ledger_add) (fgs_cons (fg_nm (is := SI_Ledger_add) 8 S_Ledger_add.nd ST_Ledger_add) fgs_nil)))
      (fss_one (fs_expr (fe_append (fe_ix (hu_of hr) (fe_fld (f := 14) rfl inj (na_T T) (fe_vr (is := VI_Ledger_add) 0 V_Ledger_add)) (fe_op of_sub (fe_vr (is := VI_Ledger_add) 7 V_Ledger_add) fe_int)) (fa_cons (fe_tup (fa_cons (fe_vr (is := VI_Ledger_add) 6 V_Ledger_add) (fa_cons (fe_vr (is := VI_Ledger_add) 1 V_Ledger_add) (fa_cons (fe_vr (is := VI_Ledger_add) 2 V_Ledger_add) (fa_cons (fe_vr (is := VI_Ledger_add) 8 V_Ledger_add) fa_nil))))) fa_nil)))))
    (fss_cons (fs_st (is := SI_Ledger_add) 9 S_Ledger_add.nd ST_Ledger_add (fe_bt bt_tuple cf_tuple (glx (L := GL_Ledger_add) (j := 3) G_Ledger_add rfl) (g_tuple T) (fa_cons (fe_lc (own := [("account", 7), ("units", 8)]) rfl S_Ledger_add.nd (blkOk_by (by kernel_rfl)) (fi_seq (fe_vr (is := VI_Ledger_add) 4 V_Ledger_add)) (fun _ _ _ _ _ => (fg_tup rfl (fgs_cons (fg_nm (is := [7]) 7 S_Ledger_add.nd (by kernel_rfl)) (fgs_cons (fg_nm (is := [8]) 8 S_Ledger_add.nd (by kernel_rfl)) fgs_nil)))) (fun _ _ _ _ _ => fts_nil) (fun _ _ _ _ _ => (fe_tup (fa_cons (fe_vr (is := [7]) 7 (by kernel_rfl)) (fa_cons (fe_vr (is := [8]) 8 (by kernel_rfl)) fa_nil))))) fa_nil)))
    (fss_cons (fs_expr (fe_append (fe_fld (f := 15) rfl inj (na_T T) (fe_vr (is := VI_Ledger_add) 0 V_Ledger_add)) (fa_cons (fe_tup (fa_cons (fe_vr (is := VI_Ledger_add) 1 V_Ledger_add) (fa_cons (fe_vr (is := VI_Ledger_add) 2 V_Ledger_add) (fa_cons (fe_vr (is := VI_Ledger_add) 3 V_Ledger_add) (fa_cons (fe_vr (is := VI_Ledger_add) 9 V_Ledger_add) (fa_cons (fe_vr (is := VI_Ledger_add) 5 V_Ledger_add) fa_nil)))))) fa_nil)))
    (fss_one (fs_ret (fe_vr (is := VI_Ledger_add) 6 V_Ledger_add))))))))
def N_Ledger_post : List Str := ["self", "day", "value", "cause", "lines"]
theorem S_Ledger_post : FnScope N_Ledger_post ["self", "day", "value", "cause", "lines"] (defScope (inClass (top 19) 4)) := ⟨rfl, rfl, rfl, by decide +kernel, rfl, by decide +kernel, by decide +kernel⟩
def VI_Ledger_post : List Nat := [0, 1, 2, 3, 4]
theorem V_Ledger_post : visI (defScope (inClass (top 19) 4)) N_Ledger_post VI_Ledger_post = true := by decide +kernel
def SI_Ledger_post : List Nat := []
theorem ST_Ledger_post : stoI (defScope (inClass (top 19) 4)) (fun _ => true) N_Ledger_post SI_Ledger_post = true := by decide +kernel
def GL_Ledger_post : List Str := []
theorem G_Ledger_post : glI (defScope (inClass (top 19) 4)) GL_Ledger_post = true := by decide +kernel
theorem f_Ledger_post (T : TX K mg) : FnR P w K mg base 4 (He.ma K (He.ga K "Ledger") "post") (spF K (tg K) m_Ledger_post) := by
  refine fnR (x := "post") (qual := "Ledger.post") (scope := d_Ledger_post.scope) (body := d_Ledger_post.body) (params := d_Ledger_post.params) (N := N_Ledger_post) (ps := ["self", "day", "value", "cause", "lines"]) (k := 3) (mb := b_Ledger_post) (T.dfn (d := d_Ledger_post) 11 rfl) S_Ledger_post (fun _ _ _ _ _ _ us hl => match us, hl with | [_, _, _, _, _], _ => rfl) (fun cdv A outer s H E hr => ?_)
  exact (fss_cons (fs_expr (fe_meth (c := 10) (bad := none) (FnR.cal (f_Ledger_check_head T) (hr.mono (by decide))) (cl_Ledger T) (mt_Ledger__check_head T) inj (bad__check_head) takesD (fe_vr (is := VI_Ledger_post) 0 V_Ledger_post) (fa_cons (fe_vr (is := VI_Ledger_post) 1 V_Ledger_post) (fa_cons (fe_vr (is := VI_Ledger_post) 2 V_Ledger_post) (fa_cons (fe_vr (is := VI_Ledger_post) 3 V_Ledger_post) fa_nil)))))
    (fss_cons (fs_expr (fe_meth (c := 10) (bad := none) (FnR.cal (f_Ledger_check_lines T) (hr.mono (by decide))) (cl_Ledger T) (mt_Ledger__check_lines T) inj (bad__check_lines) takesD (fe_vr (is := VI_Ledger_post) 0 V_Ledger_post) (fa_cons (fe_vr (is := VI_Ledger_post) 4 V_Ledger_post) fa_nil)))
    (fss_one (fs_ret (fe_meth (c := 10) (bad := none) (FnR.cal (f_Ledger_add T) (hr.mono (by decide))) (cl_Ledger T) (mt_Ledger__add T) inj (bad__add) takesD (fe_vr (is := VI_Ledger_post) 0 V_Ledger_post) (fa_cons (fe_vr (is := VI_Ledger_post) 1 V_Ledger_post) (fa_cons (fe_vr (is := VI_Ledger_post) 2 V_Ledger_post) (fa_cons (fe_vr (is := VI_Ledger_post) 3 V_Ledger_post) (fa_cons (fe_vr (is := VI_Ledger_post) 4 V_Ledger_post) (fa_cons fe_non fa_nil))))))))))
def N_law_post : List Str := ["_law_ledger", "_law_lines", "_law_day", "_law_row", "_law_value", "_law_entry", "_law_k", "_law_units", "_law_first", "_law_second", "_law_number", "_law_account"]
theorem S_law_post : FnScope N_law_post ["_law_ledger", "_law_lines", "_law_day", "_law_row"] (defScope (top 25)) := ⟨rfl, rfl, rfl, by decide +kernel, rfl, by decide +kernel, by decide +kernel⟩
def VI_law_post : List Nat := [0, 1, 2, 3, 4, 5, 6, 7, 8, 9, 10, 11]
theorem V_law_post : visI (defScope (top 25)) N_law_post VI_law_post = true := by decide +kernel
def SI_law_post : List Nat := [4, 5, 6, 7, 8, 9, 10, 11]
theorem ST_law_post : stoI (defScope (top 25)) (fun _ => true) N_law_post SI_law_post = true := by decide +kernel
def GL_law_post : List Str := ["int", "max", "min", "len", "range", "list", "str"]
theorem G_law_post : glI (defScope (top 25)) GL_law_post = true := by decide +kernel
theorem f_law_post (T : TX K mg) : FnR P w K mg base 5 (He.ga K "_law_post") (spF K (tg K) m_law_post) := by
  refine fnR (x := "_law_post") (qual := "_law_post") (scope := d_law_post.scope) (body := d_law_post.body) (params := d_law_post.params) (N := N_law_post) (ps := ["_law_ledger", "_law_lines", "_law_day", "_law_row"]) (k := 4) (mb := b_law_post) (T.dfn (d := d_law_post) 12 rfl) S_law_post (fun _ _ _ _ _ _ us hl => match us, hl with | [_, _, _, _], _ => rfl) (fun cdv A outer s H E hr => ?_)
  exact (fss_cons (fs_st (is := SI_law_post) 4 S_law_post.nd ST_law_post (fe_op of_sub (fe_op of_add (fe_vr (is := VI_law_post) 2 V_law_post) (fe_op of_mod (fe_bt bt_int cf_int (glx (L := GL_law_post) (j := 0) G_law_post rfl) (g_int T) (fa_cons (fe_ix (hu_of hr) (fe_vr (is := VI_law_post) 3 V_law_post) fe_int) fa_nil)) fe_int)) fe_int))
    (fss_cons (fs_if (ft_cmp (of_eq (hr.units)) (fe_op of_mod (fe_bt bt_int cf_int (glx (L := GL_law_post) (j := 0) G_law_post rfl) (g_int T) (fa_cons (fe_ix (hu_of hr) (fe_vr (is := VI_law_post) 3 V_law_post) fe_int) fa_nil)) fe_int) fe_int rfl) (fss_one (fs_st (is := SI_law_post) 4 S_law_post.nd ST_law_post (fe_op of_mod (fe_bt bt_int cf_int (glx (L := GL_law_post) (j := 0) G_law_post rfl) (g_int T) (fa_cons (fe_ix (hu_of hr) (fe_vr (is := VI_law_post) 3 V_law_post) fe_int) fa_nil)) fe_int))) fss_nil)
    (fss_cons (fs_st (is := SI_law_post) 4 S_law_post.nd ST_law_post (fe_bb bt_min (cf_min rfl) (glx (L := GL_law_post) (j := 2) G_law_post rfl) (g_min T) (fa_cons (fe_bb bt_max (cf_max rfl) (glx (L := GL_law_post) (j := 1) G_law_post rfl) (g_max T) (fa_cons (fe_vr (is := VI_law_post) 4 V_law_post) (fa_cons fe_int fa_nil))) (fa_cons fe_int fa_nil))))
    (fss_cons (fs_st (is := SI_law_post) 5 S_law_post.nd ST_law_post (fe_lst fa_nil))
    (fss_cons (fs_for passD rfl (fi_rng1 (glx (L := GL_law_post) (j := 4) G_law_post rfl).gl (g_range T) (fa_cons (fe_op of_add fe_int (fe_op of_mod (fe_bt bt_int cf_int (glx (L := GL_law_post) (j := 0) G_law_post rfl) (g_int T) (fa_cons (fe_ix (hu_of hr) (fe_vr (is := VI_law_post) 3 V_law_post) fe_int) fa_nil)) fe_int)) fa_nil)) (fg_nm (is := SI_law_post) 6 S_law_post.nd ST_law_post)
      (fss_cons (fs_st (is := SI_law_post) 7 S_law_post.nd ST_law_post (fe_op of_add fe_int (fe_op of_mod (fe_bt bt_int cf_int (glx (L := GL_law_post) (j := 0) G_law_post rfl) (g_int T) (fa_cons (fe_ix (hu_of hr) (fe_vr (is := VI_law_post) 3 V_law_post) (fe_op of_add fe_int (fe_vr (is := VI_law_post) 6 V_law_post))) fa_nil)) fe_int)))
    (fss_cons (fs_if (ft_cmp (of_eq (hr.units)) (fe_op of_mod (fe_bt bt_int cf_int (glx (L := GL_law_post) (j := 0) G_law_post rfl) (g_int T) (fa_cons (fe_ix (hu_of hr) (fe_vr (is := VI_law_post) 3 V_law_post) fe_int) fa_nil)) fe_int) fe_int rfl) (fss_one (fs_st (is := SI_law_post) 7 S_law_post.nd ST_law_post (fe_op of_add fe_int (fe_op of_mod (fe_bt bt_int cf_int (glx (L := GL_law_post) (j := 0) G_law_post rfl) (g_int T) (fa_cons (fe_ix (hu_of hr) (fe_vr (is := VI_law_post) 3 V_law_post) (fe_op of_add fe_int (fe_vr (is := VI_law_post) 6 V_law_post))) fa_nil)) fe_int)))) fss_nil)
    (fss_cons (fs_st (is := SI_law_post) 8 S_law_post.nd ST_law_post (fe_op of_add fe_int (fe_op of_mod (fe_bt bt_int cf_int (glx (L := GL_law_post) (j := 0) G_law_post rfl) (g_int T) (fa_cons (fe_ix (hu_of hr) (fe_vr (is := VI_law_post) 3 V_law_post) (fe_op of_add fe_int (fe_vr (is := VI_law_post) 6 V_law_post))) fa_nil)) (fe_bb bt_len cf_len (glx (L := GL_law_post) (j := 3) G_law_post rfl) (g_len T) (fa_cons (fe_vr (is := VI_law_post) 1 V_law_post) fa_nil)))))
    (fss_cons (fs_st (is := SI_law_post) 9 S_law_post.nd ST_law_post (fe_op of_add fe_int (fe_op of_mod (fe_bt bt_int cf_int (glx (L := GL_law_post) (j := 0) G_law_post rfl) (g_int T) (fa_cons (fe_ix (hu_of hr) (fe_vr (is := VI_law_post) 3 V_law_post) (fe_op of_add fe_int (fe_vr (is := VI_law_post) 6 V_law_post))) fa_nil)) (fe_bb bt_len cf_len (glx (L := GL_law_post) (j := 3) G_law_post rfl) (g_len T) (fa_cons (fe_vr (is := VI_law_post) 1 V_law_post) fa_nil)))))
    (fss_cons (fs_expr (fe_append (fe_vr (is := VI_law_post) 5 V_law_post) (fa_cons (fe_tup (fa_cons (fe_vr (is := VI_law_post) 8 V_law_post) (fa_cons (fe_vr (is := VI_law_post) 7 V_law_post) fa_nil))) fa_nil)))
    (fss_one (fs_expr (fe_append (fe_vr (is := VI_law_post) 5 V_law_post) (fa_cons (fe_tup (fa_cons (fe_vr (is := VI_law_post) 9 V_law_post) (fa_cons (fe_op of_sub fe_int (fe_vr (is := VI_law_post) 7 V_law_post)) fa_nil))) fa_nil))))))))))
    (fss_cons (fs_st (is := SI_law_post) 10 S_law_post.nd ST_law_post (fe_meth (c := 10) (bad := none) (FnR.cal (f_Ledger_post T) (hr.mono (by decide))) (cl_Ledger T) (mt_Ledger_post T) inj (bad_post) takesD (fe_vr (is := VI_law_post) 0 V_law_post) (fa_cons (fe_vr (is := VI_law_post) 2 V_law_post) (fa_cons (fe_vr (is := VI_law_post) 4 V_law_post) (fa_cons (fe_op of_add fe_str (fe_bt bt_str cf_str (glx (L := GL_law_post) (j := 6) G_law_post rfl) (g_str T) (fa_cons (fe_op of_mod (fe_bt bt_int cf_int (glx (L := GL_law_post) (j := 0) G_law_post rfl) (g_int T) (fa_cons (fe_ix (hu_of hr) (fe_vr (is := VI_law_post) 3 V_law_post) fe_int) fa_nil)) fe_int) fa_nil))) (fa_cons (fe_bt bt_list cf_list (glx (L := GL_law_post) (j := 5) G_law_post rfl) (g_list T) (fa_cons (fe_vr (is := VI_law_post) 5 V_law_post) fa_nil)) fa_nil))))))
    (fss_one (fs_for passD rfl (fi_seq (fe_vr (is := VI_law_post) 5 V_law_post)) (fg_tup rfl (fgs_cons (fg_nm (is := SI_law_post) 11 S_law_post.nd ST_law_post) (fgs_cons (fg_nm (is := SI_law_post) 7 S_law_post.nd ST_law_post) fgs_nil)))
      (fss_one (fs_expr (fe_append (fe_ix (hu_of hr) (fe_vr (is := VI_law_post) 1 V_law_post) (fe_op of_sub (fe_vr (is := VI_law_post) 11 V_law_post) fe_int)) (fa_cons (fe_tup (fa_cons (fe_vr (is := VI_law_post) 10 V_law_post) (fa_cons (fe_vr (is := VI_law_post) 2 V_law_post) (fa_cons (fe_vr (is := VI_law_post) 4 V_law_post) (fa_cons (fe_vr (is := VI_law_post) 7 V_law_post) fa_nil))))) fa_nil))))))))))))
def N_law_span : List Str := ["_law_day", "_law_row", "_law_first", "_law_last"]
theorem S_law_span : FnScope N_law_span ["_law_day", "_law_row"] (defScope (top 26)) := ⟨rfl, rfl, rfl, by decide +kernel, rfl, by decide +kernel, by decide +kernel⟩
def VI_law_span : List Nat := [0, 1, 2, 3]
theorem V_law_span : visI (defScope (top 26)) N_law_span VI_law_span = true := by decide +kernel
def SI_law_span : List Nat := [2, 3]
theorem ST_law_span : stoI (defScope (top 26)) (fun _ => true) N_law_span SI_law_span = true := by decide +kernel
def GL_law_span : List Str := ["int"]
theorem G_law_span : glI (defScope (top 26)) GL_law_span = true := by decide +kernel
theorem f_law_span (T : TX K mg) : FnR P w K mg base 1 (He.ga K "_law_span") (spF K (tg K) m_law_span) := by
  refine fnR (x := "_law_span") (qual := "_law_span") (scope := d_law_span.scope) (body := d_law_span.body) (params := d_law_span.params) (N := N_law_span) (ps := ["_law_day", "_law_row"]) (k := 0) (mb := b_law_span) (T.dfn (d := d_law_span) 13 rfl) S_law_span (fun _ _ _ _ _ _ us hl => match us, hl with | [_, _], _ => rfl) (fun cdv A outer s H E hr => ?_)
  exact (fss_cons (fs_st (is := SI_law_span) 2 S_law_span.nd ST_law_span (fe_op of_sub (fe_op of_add (fe_vr (is := VI_law_span) 0 V_law_span) (fe_op of_mod (fe_bt bt_int cf_int (glx (L := GL_law_span) (j := 0) G_law_span rfl) (g_int T) (fa_cons (fe_ix (hu_of hr) (fe_vr (is := VI_law_span) 1 V_law_span) fe_int) fa_nil)) fe_int)) fe_int))
    (fss_cons (fs_st (is := SI_law_span) 3 S_law_span.nd ST_law_span (fe_op of_add (fe_vr (is := VI_law_span) 2 V_law_span) (fe_op of_mod (fe_bt bt_int cf_int (glx (L := GL_law_span) (j := 0) G_law_span rfl) (g_int T) (fa_cons (fe_ix (hu_of hr) (fe_vr (is := VI_law_span) 1 V_law_span) fe_int) fa_nil)) fe_int)))
    (fss_cons (fs_if (ft_cmp (of_eq (hr.units)) (fe_op of_mod (fe_bt bt_int cf_int (glx (L := GL_law_span) (j := 0) G_law_span rfl) (g_int T) (fa_cons (fe_ix (hu_of hr) (fe_vr (is := VI_law_span) 1 V_law_span) fe_int) fa_nil)) fe_int) fe_int rfl) (fss_one (fs_st (is := SI_law_span) 2 S_law_span.nd ST_law_span (fe_op of_mod (fe_bt bt_int cf_int (glx (L := GL_law_span) (j := 0) G_law_span rfl) (g_int T) (fa_cons (fe_ix (hu_of hr) (fe_vr (is := VI_law_span) 1 V_law_span) fe_int) fa_nil)) fe_int))) fss_nil)
    (fss_cons (fs_if (ft_cmp (of_eq (hr.units)) (fe_op of_mod (fe_bt bt_int cf_int (glx (L := GL_law_span) (j := 0) G_law_span rfl) (g_int T) (fa_cons (fe_ix (hu_of hr) (fe_vr (is := VI_law_span) 1 V_law_span) fe_int) fa_nil)) fe_int) fe_int rfl) (fss_one (fs_st (is := SI_law_span) 3 S_law_span.nd ST_law_span (fe_op of_mod (fe_bt bt_int cf_int (glx (L := GL_law_span) (j := 0) G_law_span rfl) (g_int T) (fa_cons (fe_ix (hu_of hr) (fe_vr (is := VI_law_span) 1 V_law_span) fe_int) fa_nil)) fe_int))) fss_nil)
    (fss_cons (fs_if (ft_cmp (of_eq (hr.units)) (fe_op of_mod (fe_bt bt_int cf_int (glx (L := GL_law_span) (j := 0) G_law_span rfl) (g_int T) (fa_cons (fe_ix (hu_of hr) (fe_vr (is := VI_law_span) 1 V_law_span) fe_int) fa_nil)) fe_int) fe_int rfl) (fss_one (fs_st (is := SI_law_span) 2 S_law_span.nd ST_law_span (fe_ix (hu_of hr) (fe_tup (fa_cons fe_int (fa_cons (fe_op of_sub fe_int fe_int) (fa_cons fe_int (fa_cons fe_int fa_nil))))) (fe_op of_mod (fe_bt bt_int cf_int (glx (L := GL_law_span) (j := 0) G_law_span rfl) (g_int T) (fa_cons (fe_ix (hu_of hr) (fe_vr (is := VI_law_span) 1 V_law_span) fe_int) fa_nil)) fe_int)))) fss_nil)
    (fss_cons (fs_if (ft_cmp (of_eq (hr.units)) (fe_op of_mod (fe_bt bt_int cf_int (glx (L := GL_law_span) (j := 0) G_law_span rfl) (g_int T) (fa_cons (fe_ix (hu_of hr) (fe_vr (is := VI_law_span) 1 V_law_span) fe_int) fa_nil)) fe_int) fe_int rfl) (fss_one (fs_st (is := SI_law_span) 3 S_law_span.nd ST_law_span (fe_ix (hu_of hr) (fe_tup (fa_cons fe_int (fa_cons (fe_op of_sub fe_int fe_int) (fa_cons fe_int (fa_cons fe_int fa_nil))))) (fe_op of_mod (fe_bt bt_int cf_int (glx (L := GL_law_span) (j := 0) G_law_span rfl) (g_int T) (fa_cons (fe_ix (hu_of hr) (fe_vr (is := VI_law_span) 1 V_law_span) fe_int) fa_nil)) fe_int)))) fss_nil)
    (fss_one (fs_ret (fe_tup (fa_cons (fe_vr (is := VI_law_span) 2 V_law_span) (fa_cons (fe_vr (is := VI_law_span) 3 V_law_span) fa_nil)))))))))))
def N_law_due : List Str := ["_law_lines", "_law_account", "_law_first", "_law_last", "_law_balance", "_law_rows", "_law_number", "_law_day", "_law_value", "_law_units", "_law_opening"]
theorem S_law_due : FnScope N_law_due ["_law_lines", "_law_account", "_law_first", "_law_last"] (defScope (top 28)) := ⟨rfl, rfl, rfl, by decide +kernel, rfl, by decide +kernel, by decide +kernel⟩
def VI_law_due : List Nat := [0, 1, 2, 3, 4, 5, 6, 7, 8, 9, 10]
theorem V_law_due : visI (defScope (top 28)) N_law_due VI_law_due = true := by decide +kernel
def SI_law_due : List Nat := [4, 5, 6, 7, 8, 9, 10]
theorem ST_law_due : stoI (defScope (top 28)) (fun _ => true) N_law_due SI_law_due = true := by decide +kernel
def GL_law_due : List Str := ["len"]
theorem G_law_due : glI (defScope (top 28)) GL_law_due = true := by decide +kernel
theorem f_law_due (T : TX K mg) : FnR P w K mg base 1 (He.ga K "_law_due") (spF K (tg K) m_law_due) := by
  refine fnR (x := "_law_due") (qual := "_law_due") (scope := d_law_due.scope) (body := d_law_due.body) (params := d_law_due.params) (N := N_law_due) (ps := ["_law_lines", "_law_account", "_law_first", "_law_last"]) (k := 0) (mb := b_law_due) (T.dfn (d := d_law_due) 14 rfl) S_law_due (fun _ _ _ _ _ _ us hl => match us, hl with | [_, _, _, _], _ => rfl) (fun cdv A outer s H E hr => ?_)
  exact (fss_cons (fs_if (ft_not (ft_chain of_le of_le fe_int (fe_vr (is := VI_law_due) 1 V_law_due) (fe_bb bt_len cf_len (glx (L := GL_law_due) (j := 0) G_law_due rfl) (g_len T) (fa_cons (fe_vr (is := VI_law_due) 0 V_law_due) fa_nil)))) (fss_one (fs_ret fe_str)) fss_nil)
    (fss_cons (fs_if (PW.pt (fw_or (ft_cmp of_lt (fe_vr (is := VI_law_due) 2 V_law_due) fe_int rfl) (fw_or (ft_cmp of_gt (fe_vr (is := VI_law_due) 3 V_law_due) fe_int rfl) (fw_or1 (ft_cmp of_gt (fe_vr (is := VI_law_due) 2 V_law_due) (fe_vr (is := VI_law_due) 3 V_law_due) rfl))))) (fss_one (fs_ret fe_str)) fss_nil)
    (fss_cons (fs_st (is := SI_law_due) 4 S_law_due.nd ST_law_due fe_int)
    (fss_cons (fs_st (is := SI_law_due) 5 S_law_due.nd ST_law_due (fe_lst fa_nil))
    (fss_cons (fs_for passD rfl (fi_seq (fe_ix (hu_of hr) (fe_vr (is := VI_law_due) 0 V_law_due) (fe_op of_sub (fe_vr (is := VI_law_due) 1 V_law_due) fe_int))) (fg_tup rfl (fgs_cons (fg_nm (is := SI_law_due) 6 S_law_due.nd ST_law_due) (fgs_cons (fg_nm (is := SI_law_due) 7 S_law_due.nd ST_law_due) (fgs_cons (fg_nm (is := SI_law_due) 8 S_law_due.nd ST_law_due) (fgs_cons (fg_nm (is := SI_law_due) 9 S_law_due.nd ST_law_due) fgs_nil)))))
      (fss_one (fs_if (ft_cmp of_lt (fe_vr (is := VI_law_due) 7 V_law_due) (fe_vr (is := VI_law_due) 2 V_law_due) rfl) (fss_one (fs_st (is := SI_law_due) 4 S_law_due.nd ST_law_due (fe_op of_add (fe_vr (is := VI_law_due) 4 V_law_due) (fe_vr (is := VI_law_due) 9 V_law_due)))) fss_nil)))
    (fss_cons (fs_st (is := SI_law_due) 10 S_law_due.nd ST_law_due (fe_vr (is := VI_law_due) 4 V_law_due))
    (fss_cons (fs_for passD rfl (fi_seq (fe_ix (hu_of hr) (fe_vr (is := VI_law_due) 0 V_law_due) (fe_op of_sub (fe_vr (is := VI_law_due) 1 V_law_due) fe_int))) (fg_tup rfl (fgs_cons (fg_nm (is := SI_law_due) 6 S_law_due.nd ST_law_due) (fgs_cons (fg_nm (is := SI_law_due) 7 S_law_due.nd ST_law_due) (fgs_cons (fg_nm (is := SI_law_due) 8 S_law_due.nd ST_law_due) (fgs_cons (fg_nm (is := SI_law_due) 9 S_law_due.nd ST_law_due) fgs_nil)))))
      (fss_one (fs_if (ft_chain of_le of_le (fe_vr (is := VI_law_due) 2 V_law_due) (fe_vr (is := VI_law_due) 7 V_law_due) (fe_vr (is := VI_law_due) 3 V_law_due)) (fss_cons (fs_st (is := SI_law_due) 4 S_law_due.nd ST_law_due (fe_op of_add (fe_vr (is := VI_law_due) 4 V_law_due) (fe_vr (is := VI_law_due) 9 V_law_due)))
    (fss_one (fs_expr (fe_append (fe_vr (is := VI_law_due) 5 V_law_due) (fa_cons (fe_tup (fa_cons (fe_vr (is := VI_law_due) 6 V_law_due) (fa_cons (fe_vr (is := VI_law_due) 7 V_law_due) (fa_cons (fe_vr (is := VI_law_due) 8 V_law_due) (fa_cons (fe_vr (is := VI_law_due) 9 V_law_due) (fa_cons (fe_vr (is := VI_law_due) 4 V_law_due) fa_nil)))))) fa_nil))))) fss_nil)))
    (fss_one (fs_ret (fe_tup (fa_cons (fe_vr (is := VI_law_due) 10 V_law_due) (fa_cons (fe_vr (is := VI_law_due) 5 V_law_due) (fa_cons (fe_vr (is := VI_law_due) 4 V_law_due) fa_nil)))))))))))))
def N_check_span : List Str := ["ledger", "account", "first", "last"]
theorem S_check_span : FnScope N_check_span ["ledger", "account", "first", "last"] (defScope (top 11)) := ⟨rfl, rfl, rfl, by decide +kernel, rfl, by decide +kernel, by decide +kernel⟩
def VI_check_span : List Nat := [0, 1, 2, 3]
theorem V_check_span : visI (defScope (top 11)) N_check_span VI_check_span = true := by decide +kernel
def SI_check_span : List Nat := []
theorem ST_check_span : stoI (defScope (top 11)) (fun _ => true) N_check_span SI_check_span = true := by decide +kernel
def GL_check_span : List Str := ["is_day", "BadDay"]
theorem G_check_span : glI (defScope (top 11)) GL_check_span = true := by decide +kernel
theorem f_check_span (T : TX K mg) : FnR P w K mg base 3 (He.ga K "check_span") (spF K (tg K) m_check_span) := by
  refine fnR (x := "check_span") (qual := "check_span") (scope := d_check_span.scope) (body := d_check_span.body) (params := d_check_span.params) (N := N_check_span) (ps := ["ledger", "account", "first", "last"]) (k := 2) (mb := b_check_span) (T.dfn (d := d_check_span) 15 rfl) S_check_span (fun _ _ _ _ _ _ us hl => match us, hl with | [_, _, _, _], _ => rfl) (fun cdv A outer s H E hr => ?_)
  exact (fss_cons (fs_expr (fe_meth (c := 10) (bad := none) (FnR.cal (f_Ledger_currency_of T) (hr.mono (by decide))) (cl_Ledger T) (mt_Ledger_currency_of T) inj (bad_currency_of) takesD (fe_vr (is := VI_check_span) 0 V_check_span) (fa_cons (fe_vr (is := VI_check_span) 1 V_check_span) fa_nil)))
    (fss_one (fs_if (PW.pt (fw_or (ft_not (ft_tru (fe_ca (FnR.cal (f_is_day T) (hr.mono (by decide))) (glx (L := GL_check_span) (j := 0) G_check_span rfl) (g_is_day T) takesD (fa_cons (fe_vr (is := VI_check_span) 2 V_check_span) fa_nil)))) (fw_or (ft_not (ft_tru (fe_ca (FnR.cal (f_is_day T) (hr.mono (by decide))) (glx (L := GL_check_span) (j := 0) G_check_span rfl) (g_is_day T) takesD (fa_cons (fe_vr (is := VI_check_span) 3 V_check_span) fa_nil)))) (fw_or1 (ft_cmp of_gt (fe_vr (is := VI_check_span) 2 V_check_span) (fe_vr (is := VI_check_span) 3 V_check_span) rfl))))) (fss_one (fs_ra (c := 2) rfl takesD (ec_BadDay T) (glx (L := GL_check_span) (j := 1) G_check_span rfl) (g_BadDay T))) fss_nil)))
def N_Ledger_lines_of : List Str := ["self", "account"]
theorem S_Ledger_lines_of : FnScope N_Ledger_lines_of ["self", "account"] (defScope (inClass (top 19) 13)) := ⟨rfl, rfl, rfl, by decide +kernel, rfl, by decide +kernel, by decide +kernel⟩
def VI_Ledger_lines_of : List Nat := [0, 1]
theorem V_Ledger_lines_of : visI (defScope (inClass (top 19) 13)) N_Ledger_lines_of VI_Ledger_lines_of = true := by decide +kernel
def SI_Ledger_lines_of : List Nat := []
theorem ST_Ledger_lines_of : stoI (defScope (inClass (top 19) 13)) (fun _ => true) N_Ledger_lines_of SI_Ledger_lines_of = true := by decide +kernel
def GL_Ledger_lines_of : List Str := ["list"]
theorem G_Ledger_lines_of : glI (defScope (inClass (top 19) 13)) GL_Ledger_lines_of = true := by decide +kernel
theorem f_Ledger_lines_of (T : TX K mg) : FnR P w K mg base 2 (He.ma K (He.ga K "Ledger") "lines_of") (spF K (tg K) m_Ledger_lines_of) := by
  refine fnR (x := "lines_of") (qual := "Ledger.lines_of") (scope := d_Ledger_lines_of.scope) (body := d_Ledger_lines_of.body) (params := d_Ledger_lines_of.params) (N := N_Ledger_lines_of) (ps := ["self", "account"]) (k := 1) (mb := b_Ledger_lines_of) (T.dfn (d := d_Ledger_lines_of) 16 rfl) S_Ledger_lines_of (fun _ _ _ _ _ _ us hl => match us, hl with | [_, _], _ => rfl) (fun cdv A outer s H E hr => ?_)
  exact (fss_cons (fs_expr (fe_meth (c := 10) (bad := none) (FnR.cal (f_Ledger_account T) (hr.mono (by decide))) (cl_Ledger T) (mt_Ledger__account T) inj (bad__account) takesD (fe_vr (is := VI_Ledger_lines_of) 0 V_Ledger_lines_of) (fa_cons (fe_vr (is := VI_Ledger_lines_of) 1 V_Ledger_lines_of) fa_nil)))
    (fss_one (fs_ret (fe_bt bt_list cf_list (glx (L := GL_Ledger_lines_of) (j := 0) G_Ledger_lines_of rfl) (g_list T) (fa_cons (fe_ix (hu_of hr) (fe_fld (f := 14) rfl inj (na_T T) (fe_vr (is := VI_Ledger_lines_of) 0 V_Ledger_lines_of)) (fe_op of_sub (fe_vr (is := VI_Ledger_lines_of) 1 V_Ledger_lines_of) fe_int)) fa_nil)))))
def N_statement : List Str := ["ledger", "account", "first", "last", "opening", "closing", "rows", "number", "booked", "value", "units"]
theorem S_statement : FnScope N_statement ["ledger", "account", "first", "last"] (defScope (top 12)) := ⟨rfl, rfl, rfl, by decide +kernel, rfl, by decide +kernel, by decide +kernel⟩
def VI_statement : List Nat := [0, 1, 2, 3, 4, 5, 6, 7, 8, 9, 10]
theorem V_statement : visI (defScope (top 12)) N_statement VI_statement = true := by decide +kernel
def SI_statement : List Nat := [4, 5, 6, 7, 8, 9, 10]
theorem ST_statement : stoI (defScope (top 12)) (fun _ => true) N_statement SI_statement = true := by decide +kernel
def GL_statement : List Str := ["check_span"]
theorem G_statement : glI (defScope (top 12)) GL_statement = true := by decide +kernel
theorem f_statement (T : TX K mg) : FnR P w K mg base 4 (He.ga K "statement") (spF K (tg K) m_statement) := by
  refine fnR (x := "statement") (qual := "statement") (scope := d_statement.scope) (body := d_statement.body) (params := d_statement.params) (N := N_statement) (ps := ["ledger", "account", "first", "last"]) (k := 3) (mb := b_statement) (T.dfn (d := d_statement) 17 rfl) S_statement (fun _ _ _ _ _ _ us hl => match us, hl with | [_, _, _, _], _ => rfl) (fun cdv A outer s H E hr => ?_)
  exact (fss_cons (fs_expr (fe_ca (FnR.cal (f_check_span T) (hr.mono (by decide))) (glx (L := GL_statement) (j := 0) G_statement rfl) (g_check_span T) takesD (fa_cons (fe_vr (is := VI_statement) 0 V_statement) (fa_cons (fe_vr (is := VI_statement) 1 V_statement) (fa_cons (fe_vr (is := VI_statement) 2 V_statement) (fa_cons (fe_vr (is := VI_statement) 3 V_statement) fa_nil))))))
    (fss_cons (fs_st (is := SI_statement) 4 S_statement.nd ST_statement fe_int)
    (fss_cons (fs_st (is := SI_statement) 5 S_statement.nd ST_statement fe_int)
    (fss_cons (fs_st (is := SI_statement) 6 S_statement.nd ST_statement (fe_lst fa_nil))
    (fss_cons (fs_for passD rfl (fi_seq (fe_meth (c := 10) (bad := none) (FnR.cal (f_Ledger_lines_of T) (hr.mono (by decide))) (cl_Ledger T) (mt_Ledger_lines_of T) inj (bad_lines_of) takesD (fe_vr (is := VI_statement) 0 V_statement) (fa_cons (fe_vr (is := VI_statement) 1 V_statement) fa_nil))) (fg_tup rfl (fgs_cons (fg_nm (is := SI_statement) 7 S_statement.nd ST_statement) (fgs_cons (fg_nm (is := SI_statement) 8 S_statement.nd ST_statement) (fgs_cons (fg_nm (is := SI_statement) 9 S_statement.nd ST_statement) (fgs_cons (fg_nm (is := SI_statement) 10 S_statement.nd ST_statement) fgs_nil)))))
      (fss_cons (fs_if (ft_cmp of_le (fe_vr (is := VI_statement) 8 V_statement) (fe_vr (is := VI_statement) 3 V_statement) rfl) (fss_one (fs_st (is := SI_statement) 5 S_statement.nd ST_statement (fe_op of_add (fe_vr (is := VI_statement) 5 V_statement) (fe_vr (is := VI_statement) 10 V_statement)))) fss_nil)
    (fss_one (fs_if (ft_cmp of_lt (fe_vr (is := VI_statement) 8 V_statement) (fe_vr (is := VI_statement) 2 V_statement) rfl) (fss_one (fs_st (is := SI_statement) 4 S_statement.nd ST_statement (fe_op of_add (fe_vr (is := VI_statement) 4 V_statement) (fe_vr (is := VI_statement) 10 V_statement)))) (fss_one (fs_if (ft_cmp of_le (fe_vr (is := VI_statement) 8 V_statement) (fe_vr (is := VI_statement) 3 V_statement) rfl) (fss_one (fs_expr (fe_append (fe_vr (is := VI_statement) 6 V_statement) (fa_cons (fe_tup (fa_cons (fe_vr (is := VI_statement) 7 V_statement) (fa_cons (fe_vr (is := VI_statement) 8 V_statement) (fa_cons (fe_vr (is := VI_statement) 9 V_statement) (fa_cons (fe_vr (is := VI_statement) 10 V_statement) (fa_cons (fe_vr (is := VI_statement) 5 V_statement) fa_nil)))))) fa_nil)))) fss_nil))))))
    (fss_one (fs_ret (fe_tup (fa_cons (fe_vr (is := VI_statement) 4 V_statement) (fa_cons (fe_vr (is := VI_statement) 6 V_statement) (fa_cons (fe_vr (is := VI_statement) 5 V_statement) fa_nil)))))))))))
def N_law_class : List Str := ["_law_e", "_law_found"]
theorem S_law_class : FnScope N_law_class ["_law_e"] (defScope (top 22)) := ⟨rfl, rfl, rfl, by decide +kernel, rfl, by decide +kernel, by decide +kernel⟩
def VI_law_class : List Nat := [0, 1]
theorem V_law_class : visI (defScope (top 22)) N_law_class VI_law_class = true := by decide +kernel
def SI_law_class : List Nat := [1]
theorem ST_law_class : stoI (defScope (top 22)) (fun _ => true) N_law_class SI_law_class = true := by decide +kernel
def GL_law_class : List Str := ["isinstance", "BadDay", "Missing", "len", "ValueError"]
theorem G_law_class : glI (defScope (top 22)) GL_law_class = true := by decide +kernel
theorem f_law_class (T : TX K mg) {a0 : Addr} {oe : Obj} {c : Nat} (hz : L2N.Zn (.ref ((tg K).ca c)) none oe) (hf : ∃ vs, oe.data = .fields vs) : FnRQ (a0, oe) P w K mg base 1 (He.ga K "_law_class") (spF K (tg K) (m_law_class a0 c)) := by
  refine fnRQ (x := "_law_class") (qual := "_law_class") (scope := d_law_class.scope) (body := d_law_class.body) (params := d_law_class.params) (N := N_law_class) (ps := ["_law_e"]) (k := 0) (mb := b_law_class a0 c) (T.dfn (d := d_law_class) 18 rfl) S_law_class (fun _ _ _ _ _ _ us hl => match us, hl with | [_], _ => rfl) (fun cdv A outer s H E hot hr => ?_)
  have hp : (a0, oe) ∈ (L2H.cxH (L2N.CX P w) P w K mg base N_law_class "_law_class" d_law_class.scope (He.ga K "_law_class") cdv A outer s H E (a0, oe)).pn := List.mem_singleton.mpr rfl
  exact (fss_cons (fs_st (is := SI_law_class) 1 S_law_class.nd ST_law_class (fe_lst fa_nil))
    (fss_cons (fs_if (ft_tru (fe_ix1 (cy := 2) (tab := tab_BadDay) (is := VI_law_class) hp hz hf V_law_class (glx (L := GL_law_class) (j := 0) G_law_class rfl) (g_isinstance T) (glx (L := GL_law_class) (j := 1) G_law_class rfl) (g_BadDay T) (ex_ok T exh_BadDay) (is_ok T ish_BadDay))) (fss_one (fs_expr (fe_append (fe_vr (is := VI_law_class) 1 V_law_class) (fa_cons fe_str fa_nil)))) fss_nil)
    (fss_cons (fs_if (ft_tru (fe_ix1 (cy := 3) (tab := tab_Missing) (is := VI_law_class) hp hz hf V_law_class (glx (L := GL_law_class) (j := 0) G_law_class rfl) (g_isinstance T) (glx (L := GL_law_class) (j := 2) G_law_class rfl) (g_Missing T) (ex_ok T exh_Missing) (is_ok T ish_Missing))) (fss_one (fs_expr (fe_append (fe_vr (is := VI_law_class) 1 V_law_class) (fa_cons fe_str fa_nil)))) fss_nil)
    (fss_cons (fs_if (PW.pt (fw_and (ft_cmp (of_eq (huH64 hr)) (fe_bb bt_len cf_len (glx (L := GL_law_class) (j := 3) G_law_class rfl) (g_len T) (fa_cons (fe_vr (is := VI_law_class) 1 V_law_class) fa_nil)) fe_int rfl) (fw_and1 (ft_tru (fe_ix2 (tab := tab_ValueError) (is := VI_law_class) hp hz hf V_law_class (glx (L := GL_law_class) (j := 0) G_law_class rfl) (g_isinstance T) (glx (L := GL_law_class) (j := 4) G_law_class rfl) (g_ValueError T) (ex_ok T exh_ValueError) (iv_ok T ivh)))))) (fss_one (fs_ret (fe_ix (huH1 hr) (fe_vr (is := VI_law_class) 1 V_law_class) fe_int))) fss_nil)
    (fss_one (fs_ret fe_str))))))
theorem ind_law_class (a c : Nat) (G : Gh) : m_law_class a c [.exc a] G = m_law_class 0 c [.exc 0] G := by
  refine sim_fun ?_ G
  repeat' first | exact sim_v | exact sim_c | exact sim_is | exact sim_nil | exact sim_nx | apply sim_op | apply sim_cons | apply sim_lst | apply sim_b | apply sim_mt | apply sim_tru | apply sim_asB | apply sim_not | apply sim_and | apply sim_drop | apply sim_ret | apply sim_asg | apply sim_if | apply sim_seq
def N_law_ask : List Str := ["_law_ledger", "_law_account", "_law_first", "_law_last", "_law_answer", "_law_e"]
theorem S_law_ask : FnScope N_law_ask ["_law_ledger", "_law_account", "_law_first", "_law_last"] (defScope (top 27)) := ⟨rfl, rfl, rfl, by decide +kernel, rfl, by decide +kernel, by decide +kernel⟩
def VI_law_ask : List Nat := [0, 1, 2, 3, 4, 5]
theorem V_law_ask : visI (defScope (top 27)) N_law_ask VI_law_ask = true := by decide +kernel
def SI_law_ask : List Nat := [4, 5]
theorem ST_law_ask : stoI (defScope (top 27)) (fun _ => true) N_law_ask SI_law_ask = true := by decide +kernel
def GL_law_ask : List Str := ["statement", "BankError", "_law_class"]
theorem G_law_ask : glI (defScope (top 27)) GL_law_ask = true := by decide +kernel
theorem h_law_ask_1_ok (a c : Nat) (env : Ev) (G : Gh) (h : 5 < env.length) : (h_law_ask_1 a c (env.set 5 (some (.exc a))) G).clr 5 = (h0_law_ask_1 c env G).clr 5 := by
  simp [h_law_ask_1, h0_law_ask_1, sRet, eCall, aCons, aNil, eVar, eTup, eC, Rs.bind, exS, List.getElem?_set_self h, ind_law_class a]
  try (cases m_law_class 0 c [.exc 0] G <;> rfl)
theorem f_law_ask (T : TX K mg) : FnR P w K mg base 5 (He.ga K "_law_ask") (spF K (tg K) m_law_ask) := by
  refine fnR (x := "_law_ask") (qual := "_law_ask") (scope := d_law_ask.scope) (body := d_law_ask.body) (params := d_law_ask.params) (N := N_law_ask) (ps := ["_law_ledger", "_law_account", "_law_first", "_law_last"]) (k := 4) (mb := b_law_ask) (T.dfn (d := d_law_ask) 19 rfl) S_law_ask (fun _ _ _ _ _ _ us hl => match us, hl with | [_, _, _, _], _ => rfl) (fun cdv A outer s H E hr => ?_)
  exact (fss_cons (fs_tryAs (cc := 0) (i := 5) (hm' := h_law_ask_1) rfl rfl S_law_ask.nd rfl (by kernel_rfl) (names_of (glx (L := GL_law_ask) (j := 1) G_law_ask rfl) (g_BankError T)) takesD (sb0_T T) (fun W1 pn1 xe1 tk1 hp1 => (fss_one (fs_st (is := SI_law_ask) 4 S_law_ask.nd ST_law_ask (fe_ca (FnR.cal (f_statement T) (hr.mono (by decide))) (glx (L := GL_law_ask) (j := 0) G_law_ask rfl) (g_statement T) tk1 (fa_cons (fe_vr (is := VI_law_ask) 0 V_law_ask) (fa_cons (fe_vr (is := VI_law_ask) 1 V_law_ask) (fa_cons (fe_vr (is := VI_law_ask) 2 V_law_ask) (fa_cons (fe_vr (is := VI_law_ask) 3 V_law_ask) fa_nil)))))))) (fun a0 oe c pn hz hf => (fss_one (fs_ret (fe_ca (FnRQ.cal (f_law_class T hz hf) (roomS (hr.mono (by decide))) (hot_suite hz hf) (List.mem_cons_self ..)) (glx (L := GL_law_ask) (j := 2) G_law_ask rfl) (g__law_class T) takesS (fa_cons (fe_vr (is := VI_law_ask) 5 V_law_ask) fa_nil))))) h_law_ask_1_ok)
    (fss_one (fs_ret (fe_vr (is := VI_law_ask) 4 V_law_ask))))
def N_law_same : List Str := ["_law_actual", "_law_due_here", "_law_k"]
theorem S_law_same : FnScope N_law_same ["_law_actual", "_law_due_here"] (defScope (top 23)) := ⟨rfl, rfl, rfl, by decide +kernel, rfl, by decide +kernel, by decide +kernel⟩
def VI_law_same : List Nat := [0, 1, 2]
theorem V_law_same : visI (defScope (top 23)) N_law_same VI_law_same = true := by decide +kernel
def SI_law_same : List Nat := [2]
theorem ST_law_same : stoI (defScope (top 23)) (fun _ => true) N_law_same SI_law_same = true := by decide +kernel
def GL_law_same : List Str := ["isinstance", "bool", "int", "str", "list", "tuple", "len", "_law_same", "range"]
theorem G_law_same : glI (defScope (top 23)) GL_law_same = true := by decide +kernel
theorem f_law_same (T : TX K mg) : ∀ n : Nat, FnR P w K mg base (0 + n + 1) (He.ga K "_law_same") (spF K (tg K) (m_law_same n))
  | 0 => fnR (x := "_law_same") (qual := "_law_same") (scope := d_law_same.scope) (body := d_law_same.body) (params := d_law_same.params) (N := N_law_same) (ps := ["_law_actual", "_law_due_here"]) (k := 0) (mb := sNever) (T.dfn (d := d_law_same) 20 rfl) S_law_same (fun _ _ _ _ _ _ us hl => match us, hl with | [_, _], _ => rfl) (fun cdv A outer s H E hr => fss_never)
  | n + 1 => by
    have ih := f_law_same T n
    refine fnR (x := "_law_same") (qual := "_law_same") (scope := d_law_same.scope) (body := d_law_same.body) (params := d_law_same.params) (N := N_law_same) (ps := ["_law_actual", "_law_due_here"]) (k := 0 + n + 1) (mb := b_law_same (m_law_same n)) (T.dfn (d := d_law_same) 20 rfl) S_law_same (fun _ _ _ _ _ _ us hl => match us, hl with | [_, _], _ => rfl) (fun cdv A outer s H E hr => ?_)
    exact (fss_cons (fs_if (ft_cmp of_is (fe_vr (is := VI_law_same) 1 V_law_same) fe_non rfl) (fss_one (fs_ret (fe_cmp of_is (fe_vr (is := VI_law_same) 0 V_law_same) fe_non rfl))) fss_nil)
    (fss_cons (fs_if (ft_tru (fe_is 1 bt_bool (glx (L := GL_law_same) (j := 0) G_law_same rfl) (g_isinstance T) (glx (L := GL_law_same) (j := 1) G_law_same rfl) (g_bool T) (fe_vr (is := VI_law_same) 1 V_law_same))) (fss_one (fs_ret (fe_and (fe_is 1 bt_bool (glx (L := GL_law_same) (j := 0) G_law_same rfl) (g_isinstance T) (glx (L := GL_law_same) (j := 1) G_law_same rfl) (g_bool T) (fe_vr (is := VI_law_same) 0 V_law_same)) (fe_one (fe_cmp (of_eq (hr.units)) (fe_vr (is := VI_law_same) 0 V_law_same) (fe_vr (is := VI_law_same) 1 V_law_same) rfl))))) fss_nil)
    (fss_cons (fs_if (ft_tru (fe_is 2 bt_int (glx (L := GL_law_same) (j := 0) G_law_same rfl) (g_isinstance T) (glx (L := GL_law_same) (j := 2) G_law_same rfl) (g_int T) (fe_vr (is := VI_law_same) 1 V_law_same))) (fss_one (fs_ret (fe_and (fe_is 2 bt_int (glx (L := GL_law_same) (j := 0) G_law_same rfl) (g_isinstance T) (glx (L := GL_law_same) (j := 2) G_law_same rfl) (g_int T) (fe_vr (is := VI_law_same) 0 V_law_same)) (fe_and (fe_not (fe_is 1 bt_bool (glx (L := GL_law_same) (j := 0) G_law_same rfl) (g_isinstance T) (glx (L := GL_law_same) (j := 1) G_law_same rfl) (g_bool T) (fe_vr (is := VI_law_same) 0 V_law_same))) (fe_one (fe_cmp (of_eq (hr.units)) (fe_vr (is := VI_law_same) 0 V_law_same) (fe_vr (is := VI_law_same) 1 V_law_same) rfl)))))) fss_nil)
    (fss_cons (fs_if (ft_tru (fe_is 3 bt_str (glx (L := GL_law_same) (j := 0) G_law_same rfl) (g_isinstance T) (glx (L := GL_law_same) (j := 3) G_law_same rfl) (g_str T) (fe_vr (is := VI_law_same) 1 V_law_same))) (fss_one (fs_ret (fe_and (fe_is 3 bt_str (glx (L := GL_law_same) (j := 0) G_law_same rfl) (g_isinstance T) (glx (L := GL_law_same) (j := 3) G_law_same rfl) (g_str T) (fe_vr (is := VI_law_same) 0 V_law_same)) (fe_one (fe_cmp (of_eq (hr.units)) (fe_vr (is := VI_law_same) 0 V_law_same) (fe_vr (is := VI_law_same) 1 V_law_same) rfl))))) fss_nil)
    (fss_cons (fs_if (PW.pt (fw_or (ft_cmp (of_ne (hr.units)) (fe_is 5 bt_list (glx (L := GL_law_same) (j := 0) G_law_same rfl) (g_isinstance T) (glx (L := GL_law_same) (j := 4) G_law_same rfl) (g_list T) (fe_vr (is := VI_law_same) 1 V_law_same)) (fe_is 5 bt_list (glx (L := GL_law_same) (j := 0) G_law_same rfl) (g_isinstance T) (glx (L := GL_law_same) (j := 4) G_law_same rfl) (g_list T) (fe_vr (is := VI_law_same) 0 V_law_same)) rfl) (fw_or1 (ft_cmp (of_ne (hr.units)) (fe_is 4 bt_tuple (glx (L := GL_law_same) (j := 0) G_law_same rfl) (g_isinstance T) (glx (L := GL_law_same) (j := 5) G_law_same rfl) (g_tuple T) (fe_vr (is := VI_law_same) 1 V_law_same)) (fe_is 4 bt_tuple (glx (L := GL_law_same) (j := 0) G_law_same rfl) (g_isinstance T) (glx (L := GL_law_same) (j := 5) G_law_same rfl) (g_tuple T) (fe_vr (is := VI_law_same) 0 V_law_same)) rfl)))) (fss_one (fs_ret fe_bl)) fss_nil)
    (fss_cons (fs_if (ft_cmp (of_ne (hr.units)) (fe_bb bt_len cf_len (glx (L := GL_law_same) (j := 6) G_law_same rfl) (g_len T) (fa_cons (fe_vr (is := VI_law_same) 0 V_law_same) fa_nil)) (fe_bb bt_len cf_len (glx (L := GL_law_same) (j := 6) G_law_same rfl) (g_len T) (fa_cons (fe_vr (is := VI_law_same) 1 V_law_same) fa_nil)) rfl) (fss_one (fs_ret fe_bl)) fss_nil)
    (fss_cons (fs_for passD rfl (fi_rng1 (glx (L := GL_law_same) (j := 8) G_law_same rfl).gl (g_range T) (fa_cons (fe_bb bt_len cf_len (glx (L := GL_law_same) (j := 6) G_law_same rfl) (g_len T) (fa_cons (fe_vr (is := VI_law_same) 1 V_law_same) fa_nil)) fa_nil)) (fg_nm (is := SI_law_same) 2 S_law_same.nd ST_law_same)
      (fss_one (fs_if (ft_not (ft_tru (fe_ca (ih.cal (hr.mono (by omega))) (glx (L := GL_law_same) (j := 7) G_law_same rfl) (g__law_same T) takesD (fa_cons (fe_ix (hu_of hr) (fe_vr (is := VI_law_same) 0 V_law_same) (fe_vr (is := VI_law_same) 2 V_law_same)) (fa_cons (fe_ix (hu_of hr) (fe_vr (is := VI_law_same) 1 V_law_same) (fe_vr (is := VI_law_same) 2 V_law_same)) fa_nil))))) (fss_one (fs_ret fe_bl)) fss_nil)))
    (fss_one (fs_ret fe_bl)))))))))
def N_law : List Str := ["_law_script", "_law_numbers_here", "_law_ledger", "_law_lines", "_law_day", "_law_start", "_law_cell", "_law_row", "_law_account", "_law_first", "_law_last", "_law_due_here", "_law_told"]
theorem S_law : FnScope N_law ["_law_script"] (defScope (top 29)) := ⟨rfl, rfl, rfl, by decide +kernel, rfl, by decide +kernel, by decide +kernel⟩
def VI_law : List Nat := [0, 1, 2, 3, 4, 5, 6, 7, 8, 9, 10, 11, 12]
theorem V_law : visI (defScope (top 29)) N_law VI_law = true := by decide +kernel
def SI_law : List Nat := [1, 2, 3, 4, 5, 6, 7, 8, 9, 10, 11, 12]
theorem ST_law : stoI (defScope (top 29)) (fun _ => true) N_law SI_law = true := by decide +kernel
def GL_law : List Str := ["_law_numbers", "len", "_law_books", "int", "min", "_law_post", "_law_span", "_law_due", "_law_ask", "_law_same", "isinstance", "tuple", "range"]
theorem G_law : glI (defScope (top 29)) GL_law = true := by decide +kernel
theorem fo_law (T : TX K mg) {fd : FuncData} (F : FunD K d_law.name d_law.qual d_law.params d_law.body d_law.scope [] [] (He.ga K "law") fd) : FnOk P w K mg base (L2N.CX P w) 10 (He.ga K "law") fd ["_law_script"] (spF K (tg K) m_law) := by
  refine fnO (N := N_law) (ps := ["_law_script"]) (k := 9) (mb := b_law) F S_law (fun cdv A outer s H E hr => ?_)
  exact (fss_cons (fs_st (is := SI_law) 1 S_law.nd ST_law (fe_ca (FnR.cal (f_law_numbers T) (hr.mono (by decide))) (glx (L := GL_law) (j := 0) G_law rfl) (g__law_numbers T) takesD (fa_cons fe_int (fa_cons fe_int fa_nil))))
    (fss_cons (fs_if (ft_cmp of_gt (fe_bb bt_len cf_len (glx (L := GL_law) (j := 1) G_law rfl) (g_len T) (fa_cons (fe_vr (is := VI_law) 0 V_law) fa_nil)) fe_int rfl) (fss_one (fs_st (is := SI_law) 1 S_law.nd ST_law (fe_ca (FnR.cal (f_law_numbers T) (hr.mono (by decide))) (glx (L := GL_law) (j := 0) G_law rfl) (g__law_numbers T) takesD (fa_cons (fe_ix (hu_of hr) (fe_vr (is := VI_law) 0 V_law) fe_int) (fa_cons fe_int fa_nil))))) fss_nil)
    (fss_cons (fs_asg (fe_ca (FnR.cal (f_law_books T) (hr.mono (by decide))) (glx (L := GL_law) (j := 2) G_law rfl) (g__law_books T) takesD (fa_cons (fe_vr (is := VI_law) 1 V_law) fa_nil)) (fg_tup rfl (fgs_cons (fg_nm (is := SI_law) 2 S_law.nd ST_law) (fgs_cons (fg_nm (is := SI_law) 3 S_law.nd ST_law) fgs_nil))))
    (fss_cons (fs_st (is := SI_law) 4 S_law.nd ST_law (fe_ix (hu_of hr) (fe_tup (fa_cons fe_int (fa_cons fe_int (fa_cons (fe_op of_mod (fe_bt bt_int cf_int (glx (L := GL_law) (j := 3) G_law rfl) (g_int T) (fa_cons (fe_ix (hu_of hr) (fe_vr (is := VI_law) 1 V_law) fe_int) fa_nil)) fe_int) (fa_cons (fe_op of_mod (fe_bt bt_int cf_int (glx (L := GL_law) (j := 3) G_law rfl) (g_int T) (fa_cons (fe_ix (hu_of hr) (fe_vr (is := VI_law) 1 V_law) fe_int) fa_nil)) fe_int) fa_nil))))) (fe_op of_mod (fe_bt bt_int cf_int (glx (L := GL_law) (j := 3) G_law rfl) (g_int T) (fa_cons (fe_ix (hu_of hr) (fe_vr (is := VI_law) 1 V_law) fe_int) fa_nil)) fe_int)))
    (fss_cons (fs_st (is := SI_law) 5 S_law.nd ST_law (fe_vr (is := VI_law) 4 V_law))
    (fss_cons (fs_for passD rfl (fi_seq (fe_op of_add (fe_lst (fa_cons fe_int fa_nil)) (fe_sl (fe_vr (is := VI_law) 0 V_law) fo_none (fo_some fe_int)))) (fg_nm (is := SI_law) 6 S_law.nd ST_law)
      (fss_cons (fs_st (is := SI_law) 7 S_law.nd ST_law (fe_ca (FnR.cal (f_law_numbers T) (hr.mono (by decide))) (glx (L := GL_law) (j := 0) G_law rfl) (g__law_numbers T) takesD (fa_cons (fe_vr (is := VI_law) 6 V_law) (fa_cons fe_int fa_nil))))
    (fss_cons (fs_st (is := SI_law) 4 S_law.nd ST_law (fe_bb bt_min (cf_min rfl) (glx (L := GL_law) (j := 4) G_law rfl) (g_min T) (fa_cons (fe_op of_add (fe_vr (is := VI_law) 4 V_law) (fe_ix (hu_of hr) (fe_tup (fa_cons fe_int (fa_cons fe_int (fa_cons fe_int (fa_cons fe_int fa_nil))))) (fe_op of_mod (fe_bt bt_int cf_int (glx (L := GL_law) (j := 3) G_law rfl) (g_int T) (fa_cons (fe_ix (hu_of hr) (fe_vr (is := VI_law) 7 V_law) fe_int) fa_nil)) fe_int))) (fa_cons fe_int fa_nil))))
    (fss_cons (fs_expr (fe_ca (FnR.cal (f_law_post T) (hr.mono (by decide))) (glx (L := GL_law) (j := 5) G_law rfl) (g__law_post T) takesD (fa_cons (fe_vr (is := VI_law) 2 V_law) (fa_cons (fe_vr (is := VI_law) 3 V_law) (fa_cons (fe_vr (is := VI_law) 4 V_law) (fa_cons (fe_vr (is := VI_law) 7 V_law) fa_nil))))))
    (fss_cons (fs_st (is := SI_law) 8 S_law.nd ST_law (fe_op of_add fe_int (fe_op of_mod (fe_bt bt_int cf_int (glx (L := GL_law) (j := 3) G_law rfl) (g_int T) (fa_cons (fe_ix (hu_of hr) (fe_vr (is := VI_law) 7 V_law) fe_int) fa_nil)) (fe_bb bt_len cf_len (glx (L := GL_law) (j := 1) G_law rfl) (g_len T) (fa_cons (fe_vr (is := VI_law) 3 V_law) fa_nil)))))
    (fss_cons (fs_if (ft_cmp (of_eq (hr.units)) (fe_op of_mod (fe_bt bt_int cf_int (glx (L := GL_law) (j := 3) G_law rfl) (g_int T) (fa_cons (fe_ix (hu_of hr) (fe_vr (is := VI_law) 7 V_law) fe_int) fa_nil)) fe_int) fe_int rfl) (fss_one (fs_st (is := SI_law) 8 S_law.nd ST_law (fe_ix (hu_of hr) (fe_tup (fa_cons fe_int (fa_cons (fe_op of_add (fe_bb bt_len cf_len (glx (L := GL_law) (j := 1) G_law rfl) (g_len T) (fa_cons (fe_vr (is := VI_law) 3 V_law) fa_nil)) fe_int) (fa_cons (fe_op of_sub fe_int fe_int) fa_nil)))) (fe_op of_mod (fe_bt bt_int cf_int (glx (L := GL_law) (j := 3) G_law rfl) (g_int T) (fa_cons (fe_ix (hu_of hr) (fe_vr (is := VI_law) 7 V_law) fe_int) fa_nil)) fe_int)))) fss_nil)
    (fss_cons (fs_asg (fe_ca (FnR.cal (f_law_span T) (hr.mono (by decide))) (glx (L := GL_law) (j := 6) G_law rfl) (g__law_span T) takesD (fa_cons (fe_vr (is := VI_law) 4 V_law) (fa_cons (fe_vr (is := VI_law) 7 V_law) fa_nil))) (fg_tup rfl (fgs_cons (fg_nm (is := SI_law) 9 S_law.nd ST_law) (fgs_cons (fg_nm (is := SI_law) 10 S_law.nd ST_law) fgs_nil))))
    (fss_cons (fs_st (is := SI_law) 11 S_law.nd ST_law (fe_ca (FnR.cal (f_law_due T) (hr.mono (by decide))) (glx (L := GL_law) (j := 7) G_law rfl) (g__law_due T) takesD (fa_cons (fe_vr (is := VI_law) 3 V_law) (fa_cons (fe_vr (is := VI_law) 8 V_law) (fa_cons (fe_vr (is := VI_law) 9 V_law) (fa_cons (fe_vr (is := VI_law) 10 V_law) fa_nil))))))
    (fss_cons (fs_st (is := SI_law) 12 S_law.nd ST_law (fe_ca (FnR.cal (f_law_ask T) (hr.mono (by decide))) (glx (L := GL_law) (j := 8) G_law rfl) (g__law_ask T) takesD (fa_cons (fe_vr (is := VI_law) 2 V_law) (fa_cons (fe_vr (is := VI_law) 8 V_law) (fa_cons (fe_vr (is := VI_law) 9 V_law) (fa_cons (fe_vr (is := VI_law) 10 V_law) fa_nil))))))
    (fss_cons (fs_if (ft_not (ft_tru (fe_ca (FnR.cal (f_law_same T 8) (hr.mono (by decide))) (glx (L := GL_law) (j := 9) G_law rfl) (g__law_same T) takesD (fa_cons (fe_vr (is := VI_law) 12 V_law) (fa_cons (fe_vr (is := VI_law) 11 V_law) fa_nil))))) (fss_one (fs_ret fe_bl)) fss_nil)
    (fss_cons (fs_if (ft_tru (fe_is 4 bt_tuple (glx (L := GL_law) (j := 10) G_law rfl) (g_isinstance T) (glx (L := GL_law) (j := 11) G_law rfl) (g_tuple T) (fe_vr (is := VI_law) 12 V_law))) (fss_one (fs_expr (fe_append (fe_ix (hu_of hr) (fe_vr (is := VI_law) 12 V_law) fe_int) (fa_cons (fe_tup (fa_cons fe_int (fa_cons fe_int (fa_cons fe_int (fa_cons fe_int (fa_cons fe_int fa_nil)))))) fa_nil)))) fss_nil)
    (fss_one (fs_if (ft_not (ft_tru (fe_ca (FnR.cal (f_law_same T 8) (hr.mono (by decide))) (glx (L := GL_law) (j := 9) G_law rfl) (g__law_same T) takesD (fa_cons (fe_ca (FnR.cal (f_law_ask T) (hr.mono (by decide))) (glx (L := GL_law) (j := 8) G_law rfl) (g__law_ask T) takesD (fa_cons (fe_vr (is := VI_law) 2 V_law) (fa_cons (fe_vr (is := VI_law) 8 V_law) (fa_cons (fe_vr (is := VI_law) 9 V_law) (fa_cons (fe_vr (is := VI_law) 10 V_law) fa_nil))))) (fa_cons (fe_vr (is := VI_law) 11 V_law) fa_nil))))) (fss_one (fs_ret fe_bl)) fss_nil)))))))))))))
    (fss_cons (fs_for passD rfl (fi_rng2 (glx (L := GL_law) (j := 12) G_law rfl).gl (g_range T) (fa_cons fe_int (fa_cons (fe_op of_add (fe_bb bt_len cf_len (glx (L := GL_law) (j := 1) G_law rfl) (g_len T) (fa_cons (fe_vr (is := VI_law) 3 V_law) fa_nil)) fe_int) fa_nil))) (fg_nm (is := SI_law) 8 S_law.nd ST_law)
      (fss_one (fs_if (ft_not (ft_tru (fe_ca (FnR.cal (f_law_same T 8) (hr.mono (by decide))) (glx (L := GL_law) (j := 9) G_law rfl) (g__law_same T) takesD (fa_cons (fe_ca (FnR.cal (f_law_ask T) (hr.mono (by decide))) (glx (L := GL_law) (j := 8) G_law rfl) (g__law_ask T) takesD (fa_cons (fe_vr (is := VI_law) 2 V_law) (fa_cons (fe_vr (is := VI_law) 8 V_law) (fa_cons (fe_vr (is := VI_law) 5 V_law) (fa_cons (fe_vr (is := VI_law) 4 V_law) fa_nil))))) (fa_cons (fe_ca (FnR.cal (f_law_due T) (hr.mono (by decide))) (glx (L := GL_law) (j := 7) G_law rfl) (g__law_due T) takesD (fa_cons (fe_vr (is := VI_law) 3 V_law) (fa_cons (fe_vr (is := VI_law) 8 V_law) (fa_cons (fe_vr (is := VI_law) 5 V_law) (fa_cons (fe_vr (is := VI_law) 4 V_law) fa_nil))))) fa_nil))))) (fss_one (fs_ret fe_bl)) fss_nil)))
    (fss_one (fs_ret fe_bl)))))))))
end
/-! ### the head -/
def nm0 : List PySem.Str := ["_wall", "BankError", "BadValue", "BadDay", "Missing", "Full", "LAST_DAY", "is_day", "check_span", "statement", "SORTS", "MOST_ACCOUNTS", "MOST_ENTRIES", "GREATEST_UNITS", "check_currency", "Ledger", "_law_numbers", "_law_class", "_law_same", "_law_books", "_law_post", "_law_span", "_law_ask", "_law_due"]
def nm : List PySem.Str := nm0
abbrev exB (K : PySem.W.Frag) : Bool := fx.all fun f => f.ok K
abbrev R : PySem.W.OpenRow := PySem.W.OpenLaw.row PySem.Challenge.rw_corebank_k52_statements_add_up
abbrev hk : PySem.W.Hook := He.hookX 5 fa fn [] [] (fun K => fx.all fun f => f.ok K)
def ob (s : PySem.W.SharedT) : He.AlX := He.obsX 5 fa fn [] [] (fun K => fx.all fun f => f.ok K) (HandSHeadRun.getT s)
theorem ob_eq (s : PySem.W.SharedT) : ob s = hk.obs s.abs := He.obsX_eq (HandSHeadRun.getT_eq s)
theorem run (w : World) : HandSHeadRun.RunEq R (PySem.W.view R.prog [29]) hk ob 2600 nm w := by
  intro os
  kernel_rfl
end Lw
namespace Lw
open PySem PySem.Spec PyProof.Rows L2 Mi
theorem is_day_eq (n : Int) (G : Gh) : m_is_day [.int n] G = .ok (.bl (decide (0 ≤ n) && decide (n ≤ 36524))) G := by
  apply eq_of_sat
  unfold m_is_day b_is_day
  rw [w_fun]
  refine ⟨rfl, ?_⟩
  simp only [w_ok, w_c, w_v, w_op, w_un, w_b, w_nil, w_cons, w_call, w_tup, w_lst, w_dct0, w_fld, w_meth, w_make, w_mt, w_get2, w_tru, w_asB, w_not, w_and, w_or, w_chain, w_andV, w_orV, w_notV, w_if, w_isi, w_pNone, w_pSome, w_sl, w_nx, w_brk, w_cnt, w_drop, w_ret, w_retN, w_sif, w_raise, gmN, gmT, gmAll, w_asg, w_sfld, w_ssub, w_saug, w_for, w_iseq, w_irng1, w_irng2, slotQ_some, opQ_some, opD_some, getQ_some, opB_some, blQ_bl, tyQ_some, inQ_int, evQ_some, ghQ_some, List.getElem?_cons_zero, List.getElem?_cons_succ, List.set_cons_zero, List.set_cons_succ, List.map_cons, List.map_nil, List.cons_append, List.nil_append, List.replicate, List.length_cons, List.length_nil, o_add, o_sub, o_lt, o_le, o_gt, o_ge, o_les, o_eq, o_ne, o_eqs, o_nes, o_eqb, o_neb, o_is, o_isNot, o_iadd, o_neg, b_int, b_min, b_max]
  by_cases h : 0 ≤ n <;> simp [h]
theorem cmulR {i j : Int} (h : -(2 ^ 64) < j ∧ j < 2 ^ 64) : CMul i j := .inr h
theorem cmulL {i j : Int} (h : -(2 ^ 64) < i ∧ i < 2 ^ 64) : CMul i j := .inl h
theorem pow18 {G : Gh} : opPow (.int 10) (.int 18) G = some (.int 1000000000000000000, G) := rfl
abbrev qok (Q : D → Gh → Prop) : Pq := ⟨fun _ G1 => Q .non G1, Q, fun _ _ _ => False, fun _ _ => False, fun _ _ => False⟩
theorem numbers_loop (cell : Int) (n : Nat) (hn : n ≤ 1000) (G : Gh) (seed rest : Int) (q : Pq) (hq : ∀ l : List Int, l.length = n → q.rt (.ref G.n) (G.push (.lst (l.map D.int)))) :
    (q_law_numbers_9 [some (.int cell), some (.int n), some (.int seed), some (.int rest), some (.ref G.n), none, none] (G.push (.lst []))).sat q := by
  rw [q_law_numbers_9, w_seq]; simp only [w_ok, w_c, w_v, w_op, w_un, w_b, w_nil, w_cons, w_call, w_tup, w_lst, w_dct0, w_fld, w_meth, w_make, w_mt, w_get2, w_tru, w_asB, w_not, w_and, w_or, w_chain, w_andV, w_orV, w_notV, w_if, w_isi, w_pNone, w_pSome, w_sl, w_nx, w_brk, w_cnt, w_drop, w_ret, w_retN, w_sif, w_raise, gmN, gmT, gmAll, w_asg, w_sfld, w_ssub, w_saug, w_for, w_iseq, w_irng1, w_irng2, slotQ_some, opQ_some, opD_some, getQ_some, opB_some, blQ_bl, tyQ_some, inQ_int, evQ_some, ghQ_some, List.getElem?_cons_zero, List.getElem?_cons_succ, List.set_cons_zero, List.set_cons_succ, List.map_cons, List.map_nil, List.cons_append, List.nil_append, List.replicate, List.length_cons, List.length_nil, o_add, o_sub, o_lt, o_le, o_gt, o_ge, o_les, o_eq, o_ne, o_eqs, o_nes, o_eqb, o_neb, o_is, o_isNot, o_iadd, o_neg, b_int, b_min, b_max, rng1]
  refine rng_sat ⟨by omega⟩ (fun k e G' => ∃ (l : List Int) (r : Int) (y z : Option D), l.length = k ∧ e = [some (.int cell), some (.int n), some (.int seed), some (.int r), some (.ref G.n), y, z] ∧ G' = G.push (.lst (l.map D.int))) ⟨[], rest, none, none, rfl, rfl, rfl⟩ ?_ ?_
  · rintro k e G' hk ⟨l, r, y, z, hl, rfl, rfl⟩
    have ho : (G.push (.lst (l.map D.int))).ob G.n = .lst (l.map D.int) := ob_push_same _ _
    have hz : (l.map D.int).length < sizeLine := sz2 (by rw [List.length_map]; omega)
    have fin : ∀ (x r : Int) (y z : Option D), ∃ (l' : List Int) (r' : Int) (y' z' : Option D), l'.length = k + 1 ∧ ([some (.int cell), some (.int n), some (.int seed), some (.int r), some (.ref G.n), y, z] : Ev) = [some (.int cell), some (.int n), some (.int seed), some (.int r'), some (.ref G.n), y', z'] ∧
        (G.push (.lst (l.map D.int))).set G.n (.lst (l.map D.int ++ [.int x])) = G.push (.lst (l'.map D.int)) := fun x r y z =>
      ⟨l ++ [x], r, y, z, by simp [hl], rfl, by rw [push_set, List.map_append]; rfl⟩
    simp only [w_ok, w_c, w_v, w_op, w_un, w_b, w_nil, w_cons, w_call, w_tup, w_lst, w_dct0, w_fld, w_meth, w_make, w_mt, w_get2, w_tru, w_asB, w_not, w_and, w_or, w_chain, w_andV, w_orV, w_notV, w_if, w_isi, w_pNone, w_pSome, w_sl, w_nx, w_brk, w_cnt, w_drop, w_ret, w_retN, w_sif, w_raise, gmN, gmT, gmAll, w_asg, w_sfld, w_ssub, w_saug, w_for, w_iseq, w_irng1, w_irng2, slotQ_some, opQ_some, opD_some, getQ_some, opB_some, blQ_bl, tyQ_some, inQ_int, evQ_some, ghQ_some, List.getElem?_cons_zero, List.getElem?_cons_succ, List.set_cons_zero, List.set_cons_succ, List.map_cons, List.map_nil, List.cons_append, List.nil_append, List.replicate, List.length_cons, List.length_nil, o_add, o_sub, o_lt, o_le, o_gt, o_ge, o_les, o_eq, o_ne, o_eqs, o_nes, o_eqb, o_neb, o_is, o_isNot, o_iadd, o_neg, b_int, b_min, b_max]
    split
    · rw [q_law_numbers_1, w_seq]; simp only [w_ok, w_c, w_v, w_op, w_un, w_b, w_nil, w_cons, w_call, w_tup, w_lst, w_dct0, w_fld, w_meth, w_make, w_mt, w_get2, w_tru, w_asB, w_not, w_and, w_or, w_chain, w_andV, w_orV, w_notV, w_if, w_isi, w_pNone, w_pSome, w_sl, w_nx, w_brk, w_cnt, w_drop, w_ret, w_retN, w_sif, w_raise, gmN, gmT, gmAll, w_asg, w_sfld, w_ssub, w_saug, w_for, w_iseq, w_irng1, w_irng2, slotQ_some, opQ_some, opD_some, getQ_some, opB_some, blQ_bl, tyQ_some, inQ_int, evQ_some, ghQ_some, List.getElem?_cons_zero, List.getElem?_cons_succ, List.set_cons_zero, List.set_cons_succ, List.map_cons, List.map_nil, List.cons_append, List.nil_append, List.replicate, List.length_cons, List.length_nil, o_add, o_sub, o_lt, o_le, o_gt, o_ge, o_les, o_eq, o_ne, o_eqs, o_nes, o_eqb, o_neb, o_is, o_isNot, o_iadd, o_neg, b_int, b_min, b_max, isLst_of ho, m_append ho hz, true_and, o_mod (show (0 : Int) < 4000000007 by decide), o_fdiv (show (0 : Int) < 4000000007 ∧ _ by decide)]
      exact fin _ _ _ _
    · rw [q_law_numbers_2, w_seq]; simp only [w_ok, w_c, w_v, w_op, w_un, w_b, w_nil, w_cons, w_call, w_tup, w_lst, w_dct0, w_fld, w_meth, w_make, w_mt, w_get2, w_tru, w_asB, w_not, w_and, w_or, w_chain, w_andV, w_orV, w_notV, w_if, w_isi, w_pNone, w_pSome, w_sl, w_nx, w_brk, w_cnt, w_drop, w_ret, w_retN, w_sif, w_raise, gmN, gmT, gmAll, w_asg, w_sfld, w_ssub, w_saug, w_for, w_iseq, w_irng1, w_irng2, slotQ_some, opQ_some, opD_some, getQ_some, opB_some, blQ_bl, tyQ_some, inQ_int, evQ_some, ghQ_some, List.getElem?_cons_zero, List.getElem?_cons_succ, List.set_cons_zero, List.set_cons_succ, List.map_cons, List.map_nil, List.cons_append, List.nil_append, List.replicate, List.length_cons, List.length_nil, o_add, o_sub, o_lt, o_le, o_gt, o_ge, o_les, o_eq, o_ne, o_eqs, o_nes, o_eqb, o_neb, o_is, o_isNot, o_iadd, o_neg, b_int, b_min, b_max, o_mod (show (0 : Int) < 2147483647 by decide), o_mul (cmulR (show -(2 ^ 64) < (48271 : Int) ∧ _ by decide)), o_mul (cmulR (show -(2 ^ 64) < (69621 : Int) ∧ _ by decide))]
      rw [q_law_numbers_3, w_seq]; simp only [w_ok, w_c, w_v, w_op, w_un, w_b, w_nil, w_cons, w_call, w_tup, w_lst, w_dct0, w_fld, w_meth, w_make, w_mt, w_get2, w_tru, w_asB, w_not, w_and, w_or, w_chain, w_andV, w_orV, w_notV, w_if, w_isi, w_pNone, w_pSome, w_sl, w_nx, w_brk, w_cnt, w_drop, w_ret, w_retN, w_sif, w_raise, gmN, gmT, gmAll, w_asg, w_sfld, w_ssub, w_saug, w_for, w_iseq, w_irng1, w_irng2, slotQ_some, opQ_some, opD_some, getQ_some, opB_some, blQ_bl, tyQ_some, inQ_int, evQ_some, ghQ_some, List.getElem?_cons_zero, List.getElem?_cons_succ, List.set_cons_zero, List.set_cons_succ, List.map_cons, List.map_nil, List.cons_append, List.nil_append, List.replicate, List.length_cons, List.length_nil, o_add, o_sub, o_lt, o_le, o_gt, o_ge, o_les, o_eq, o_ne, o_eqs, o_nes, o_eqb, o_neb, o_is, o_isNot, o_iadd, o_neg, b_int, b_min, b_max, o_mod (show (0 : Int) < 46337 by decide), o_fdiv (show (0 : Int) < 46337 ∧ _ by decide), o_mul (cmulL (show -(2 ^ 64) < (3 : Int) ∧ _ by decide))]
      rw [o_mul (cmulL (by omega))]
      simp only [w_ok, w_c, w_v, w_op, w_un, w_b, w_nil, w_cons, w_call, w_tup, w_lst, w_dct0, w_fld, w_meth, w_make, w_mt, w_get2, w_tru, w_asB, w_not, w_and, w_or, w_chain, w_andV, w_orV, w_notV, w_if, w_isi, w_pNone, w_pSome, w_sl, w_nx, w_brk, w_cnt, w_drop, w_ret, w_retN, w_sif, w_raise, gmN, gmT, gmAll, w_asg, w_sfld, w_ssub, w_saug, w_for, w_iseq, w_irng1, w_irng2, slotQ_some, opQ_some, opD_some, getQ_some, opB_some, blQ_bl, tyQ_some, inQ_int, evQ_some, ghQ_some, List.getElem?_cons_zero, List.getElem?_cons_succ, List.set_cons_zero, List.set_cons_succ, List.map_cons, List.map_nil, List.cons_append, List.nil_append, List.replicate, List.length_cons, List.length_nil, o_add, o_sub, o_lt, o_le, o_gt, o_ge, o_les, o_eq, o_ne, o_eqs, o_nes, o_eqb, o_neb, o_is, o_isNot, o_iadd, o_neg, b_int, b_min, b_max, isLst_of ho, m_append ho hz, true_and, o_mod (show (0 : Int) < 2147483629 by decide), o_fdiv (show (0 : Int) < 32 ∧ _ by decide), o_mul (cmulR (show -(2 ^ 64) < (16807 : Int) ∧ _ by decide))]
      exact fin _ _ _ _
  · rintro e G' ⟨l, r, y, z, hl, rfl, rfl⟩
    simp only [w_ok, w_c, w_v, w_op, w_un, w_b, w_nil, w_cons, w_call, w_tup, w_lst, w_dct0, w_fld, w_meth, w_make, w_mt, w_get2, w_tru, w_asB, w_not, w_and, w_or, w_chain, w_andV, w_orV, w_notV, w_if, w_isi, w_pNone, w_pSome, w_sl, w_nx, w_brk, w_cnt, w_drop, w_ret, w_retN, w_sif, w_raise, gmN, gmT, gmAll, w_asg, w_sfld, w_ssub, w_saug, w_for, w_iseq, w_irng1, w_irng2, slotQ_some, opQ_some, opD_some, getQ_some, opB_some, blQ_bl, tyQ_some, inQ_int, evQ_some, ghQ_some, List.getElem?_cons_zero, List.getElem?_cons_succ, List.set_cons_zero, List.set_cons_succ, List.map_cons, List.map_nil, List.cons_append, List.nil_append, List.replicate, List.length_cons, List.length_nil, o_add, o_sub, o_lt, o_le, o_gt, o_ge, o_les, o_eq, o_ne, o_eqs, o_nes, o_eqb, o_neb, o_is, o_isNot, o_iadd, o_neg, b_int, b_min, b_max]
    exact hq l (by rw [hl]; omega)
theorem numbers_eq (cell : Int) (n : Nat) (hn : n ≤ 1000) (G : Gh) : ∃ l : List Int, l.length = n ∧ m_law_numbers [.int cell, .int n] G = .ok (.ref G.n) (G.push (.lst (l.map D.int))) := by
  have key : (m_law_numbers [.int cell, .int n] G).sat (fun d G' => ∃ l : List Int, l.length = n ∧ d = .ref G.n ∧ G' = G.push (.lst (l.map D.int))) nE := by
    unfold m_law_numbers b_law_numbers
    rw [w_fun]
    refine ⟨rfl, ?_⟩
    have last : ∀ (seed rest : Int) (q : Pq), (∀ l : List Int, l.length = n → q.rt (.ref G.n) (G.push (.lst (l.map D.int)))) → (q_law_numbers_8 [some (.int cell), some (.int n), some (.int seed), some (.int rest), none, none, none] G).sat q := fun seed rest q hq => by
      rw [q_law_numbers_8, w_seq]; simp only [w_ok, w_c, w_v, w_op, w_un, w_b, w_nil, w_cons, w_call, w_tup, w_lst, w_dct0, w_fld, w_meth, w_make, w_mt, w_get2, w_tru, w_asB, w_not, w_and, w_or, w_chain, w_andV, w_orV, w_notV, w_if, w_isi, w_pNone, w_pSome, w_sl, w_nx, w_brk, w_cnt, w_drop, w_ret, w_retN, w_sif, w_raise, gmN, gmT, gmAll, w_asg, w_sfld, w_ssub, w_saug, w_for, w_iseq, w_irng1, w_irng2, slotQ_some, opQ_some, opD_some, getQ_some, opB_some, blQ_bl, tyQ_some, inQ_int, evQ_some, ghQ_some, List.getElem?_cons_zero, List.getElem?_cons_succ, List.set_cons_zero, List.set_cons_succ, List.map_cons, List.map_nil, List.cons_append, List.nil_append, List.replicate, List.length_cons, List.length_nil, o_add, o_sub, o_lt, o_le, o_gt, o_ge, o_les, o_eq, o_ne, o_eqs, o_nes, o_eqb, o_neb, o_is, o_isNot, o_iadd, o_neg, b_int, b_min, b_max, Nat.zero_le, true_and]
      exact numbers_loop cell n hn G seed rest q hq
    have mid : ∀ (seed : Int) (q : Pq), (∀ l : List Int, l.length = n → q.rt (.ref G.n) (G.push (.lst (l.map D.int)))) → (q_law_numbers_6 [some (.int cell), some (.int n), some (.int seed), none, none, none, none] G).sat q := fun seed q hq => by
      rw [q_law_numbers_6, w_seq]; simp only [w_ok, w_c, w_v, w_op, w_un, w_b, w_nil, w_cons, w_call, w_tup, w_lst, w_dct0, w_fld, w_meth, w_make, w_mt, w_get2, w_tru, w_asB, w_not, w_and, w_or, w_chain, w_andV, w_orV, w_notV, w_if, w_isi, w_pNone, w_pSome, w_sl, w_nx, w_brk, w_cnt, w_drop, w_ret, w_retN, w_sif, w_raise, gmN, gmT, gmAll, w_asg, w_sfld, w_ssub, w_saug, w_for, w_iseq, w_irng1, w_irng2, slotQ_some, opQ_some, opD_some, getQ_some, opB_some, blQ_bl, tyQ_some, inQ_int, evQ_some, ghQ_some, List.getElem?_cons_zero, List.getElem?_cons_succ, List.set_cons_zero, List.set_cons_succ, List.map_cons, List.map_nil, List.cons_append, List.nil_append, List.replicate, List.length_cons, List.length_nil, o_add, o_sub, o_lt, o_le, o_gt, o_ge, o_les, o_eq, o_ne, o_eqs, o_nes, o_eqb, o_neb, o_is, o_isNot, o_iadd, o_neg, b_int, b_min, b_max]
      rw [q_law_numbers_7, w_seq]; simp only [w_ok, w_c, w_v, w_op, w_un, w_b, w_nil, w_cons, w_call, w_tup, w_lst, w_dct0, w_fld, w_meth, w_make, w_mt, w_get2, w_tru, w_asB, w_not, w_and, w_or, w_chain, w_andV, w_orV, w_notV, w_if, w_isi, w_pNone, w_pSome, w_sl, w_nx, w_brk, w_cnt, w_drop, w_ret, w_retN, w_sif, w_raise, gmN, gmT, gmAll, w_asg, w_sfld, w_ssub, w_saug, w_for, w_iseq, w_irng1, w_irng2, slotQ_some, opQ_some, opD_some, getQ_some, opB_some, blQ_bl, tyQ_some, inQ_int, evQ_some, ghQ_some, List.getElem?_cons_zero, List.getElem?_cons_succ, List.set_cons_zero, List.set_cons_succ, List.map_cons, List.map_nil, List.cons_append, List.nil_append, List.replicate, List.length_cons, List.length_nil, o_add, o_sub, o_lt, o_le, o_gt, o_ge, o_les, o_eq, o_ne, o_eqs, o_nes, o_eqb, o_neb, o_is, o_isNot, o_iadd, o_neg, b_int, b_min, b_max, pow18]
      split <;> exact last _ _ q hq
    rw [q_law_numbers_4, w_seq]; simp only [w_ok, w_c, w_v, w_op, w_un, w_b, w_nil, w_cons, w_call, w_tup, w_lst, w_dct0, w_fld, w_meth, w_make, w_mt, w_get2, w_tru, w_asB, w_not, w_and, w_or, w_chain, w_andV, w_orV, w_notV, w_if, w_isi, w_pNone, w_pSome, w_sl, w_nx, w_brk, w_cnt, w_drop, w_ret, w_retN, w_sif, w_raise, gmN, gmT, gmAll, w_asg, w_sfld, w_ssub, w_saug, w_for, w_iseq, w_irng1, w_irng2, slotQ_some, opQ_some, opD_some, getQ_some, opB_some, blQ_bl, tyQ_some, inQ_int, evQ_some, ghQ_some, List.getElem?_cons_zero, List.getElem?_cons_succ, List.set_cons_zero, List.set_cons_succ, List.map_cons, List.map_nil, List.cons_append, List.nil_append, List.replicate, List.length_cons, List.length_nil, o_add, o_sub, o_lt, o_le, o_gt, o_ge, o_les, o_eq, o_ne, o_eqs, o_nes, o_eqb, o_neb, o_is, o_isNot, o_iadd, o_neg, b_int, b_min, b_max, o_mul (cmulL (show -(2 ^ 64) < (2 : Int) ∧ _ by decide))]
    rw [q_law_numbers_5, w_seq]; simp only [w_ok, w_c, w_v, w_op, w_un, w_b, w_nil, w_cons, w_call, w_tup, w_lst, w_dct0, w_fld, w_meth, w_make, w_mt, w_get2, w_tru, w_asB, w_not, w_and, w_or, w_chain, w_andV, w_orV, w_notV, w_if, w_isi, w_pNone, w_pSome, w_sl, w_nx, w_brk, w_cnt, w_drop, w_ret, w_retN, w_sif, w_raise, gmN, gmT, gmAll, w_asg, w_sfld, w_ssub, w_saug, w_for, w_iseq, w_irng1, w_irng2, slotQ_some, opQ_some, opD_some, getQ_some, opB_some, blQ_bl, tyQ_some, inQ_int, evQ_some, ghQ_some, List.getElem?_cons_zero, List.getElem?_cons_succ, List.set_cons_zero, List.set_cons_succ, List.map_cons, List.map_nil, List.cons_append, List.nil_append, List.replicate, List.length_cons, List.length_nil, o_add, o_sub, o_lt, o_le, o_gt, o_ge, o_les, o_eq, o_ne, o_eqs, o_nes, o_eqb, o_neb, o_is, o_isNot, o_iadd, o_neg, b_int, b_min, b_max]
    split <;> exact mid _ _ fun l hl => ⟨l, hl, rfl, rfl⟩
  obtain ⟨d, G', e, l, hl, rfl, rfl⟩ := Rs.ok_of key
  exact ⟨l, hl, e⟩
end Lw
namespace Lw
open PySem PySem.Spec PyProof.Rows L2 Mi
/-! ### bunches of lists of lines -/
abbrev Ln := Int × Int × Int × Int
def lnD (l : Ln) : D := .tup [.int l.1, .int l.2.1, .int l.2.2.1, .int l.2.2.2]
structure Bn (G : Gh) (h : Nat) (ids : List Nat) (lns : List (List Ln)) : Prop where
  oh : G.ob h = .lst (ids.map .ref)
  len : ids.length = lns.length
  it : ∀ (i : Nat) id, ids[i]? = some id → ∃ ls, lns[i]? = some ls ∧ G.ob id = .lst (ls.map lnD)
  nd : (h :: ids).Nodup
  lt : ∀ j ∈ h :: ids, j < G.n
theorem Bn.frame {G G' : Gh} {h : Nat} {ids : List Nat} {lns : List (List Ln)} (b : Bn G h ids lns) (hn : G.n ≤ G'.n) (hk : ∀ j ∈ h :: ids, G'.ob j = G.ob j) : Bn G' h ids lns :=
  ⟨(hk h List.mem_cons_self).trans b.oh, b.len, fun i id e => by
    obtain ⟨ls, e1, e2⟩ := b.it i id e
    exact ⟨ls, e1, (hk id (List.mem_cons_of_mem _ (List.mem_of_getElem? e))).trans e2⟩, b.nd, fun j hj => Nat.lt_of_lt_of_le (b.lt j hj) hn⟩
theorem Bn.fr {G G' : Gh} {h : Nat} {ids : List Nat} {lns : List (List Ln)} (b : Bn G h ids lns) (f : Fr G G') : Bn G' h ids lns := b.frame f.1 fun j hj => f.2 j (b.lt j hj)
theorem Bn.frx {G G' : Gh} {h : Nat} {ids l : List Nat} {lns : List (List Ln)} (b : Bn G h ids lns) (f : FrX l G G') (d : ∀ j ∈ h :: ids, j ∉ l) : Bn G' h ids lns := b.frame f.1 fun j hj => f.2 j (b.lt j hj) (d j hj)
/-- one line more in the i-th list -/
def addLn (lns : List (List Ln)) (i : Nat) (x : Ln) : List (List Ln) := lns.modify i (· ++ [x])
theorem addLn_len {lns : List (List Ln)} {i : Nat} {x : Ln} : (addLn lns i x).length = lns.length := List.length_modify ..
theorem Bn.at {G : Gh} {h : Nat} {ids : List Nat} {lns : List (List Ln)} (b : Bn G h ids lns) {i : Nat} (hi : i < lns.length) : ∃ id ls, ids[i]? = some id ∧ lns[i]? = some ls ∧ G.ob id = .lst (ls.map lnD) ∧ id ∈ h :: ids := by
  have hi' : i < ids.length := by rw [b.len]; exact hi
  obtain ⟨ls, e1, e2⟩ := b.it i ids[i] (List.getElem?_eq_getElem hi')
  exact ⟨ids[i], ls, List.getElem?_eq_getElem hi', e1, e2, List.mem_cons_of_mem _ (List.getElem_mem hi')⟩
theorem Bn.add {G : Gh} {h : Nat} {ids : List Nat} {lns : List (List Ln)} (b : Bn G h ids lns) {i id : Nat} {ls : List Ln} (e1 : ids[i]? = some id) (e2 : lns[i]? = some ls) (x : Ln) : Bn (G.set id (.lst (ls.map lnD ++ [lnD x]))) h ids (addLn lns i x) := by
  have hm : id ∈ ids := List.mem_of_getElem? e1
  have hne : h ≠ id := fun e => by
    have := List.nodup_cons.mp b.nd
    exact this.1 (e ▸ hm)
  have ndi := (List.nodup_cons.mp b.nd).2
  refine ⟨(ob_set_ne G _ hne).trans b.oh, by rw [addLn_len]; exact b.len, fun j jd e => ?_, b.nd, b.lt⟩
  obtain ⟨ls', e3, e4⟩ := b.it j jd e
  by_cases hj : j = i
  · subst hj
    rw [e1] at e; cases e
    rw [e2] at e3; cases e3
    refine ⟨ls ++ [x], ?_, by rw [ob_set_same, List.map_append]; rfl⟩
    unfold addLn
    simp [List.getElem?_modify, e2]
  · have hd : jd ≠ id := fun z => by
      subst z
      have h1 := (List.getElem?_eq_some_iff.mp e)
      have h2 := (List.getElem?_eq_some_iff.mp e1)
      exact hj ((List.getElem_inj ndi).mp (h1.2.trans h2.2.symm))
    refine ⟨ls', ?_, (ob_set_ne G _ hd).trans e4⟩
    unfold addLn
    have hj' : ¬ i = j := fun z => hj z.symm
    simp [List.getElem?_modify, hj', e3]
theorem Bn.push {G : Gh} {h : Nat} {ids : List Nat} {lns : List (List Ln)} (b : Bn G h ids lns) : Bn ((G.push (.lst [])).set h (.lst (ids.map .ref ++ [.ref G.n]))) h (ids ++ [G.n]) (lns ++ [[]]) := by
  have hh : h < G.n := b.lt h List.mem_cons_self
  have hl : ∀ j ∈ ids, j < G.n := fun j hj => b.lt j (List.mem_cons_of_mem _ hj)
  have nd := List.nodup_cons.mp b.nd
  refine ⟨by rw [ob_set_same, List.map_append]; rfl, by rw [List.length_append, List.length_append, b.len]; rfl, fun j jd e => ?_, ?_, fun j hj => ?_⟩
  · by_cases hj : j < ids.length
    · rw [List.getElem?_append_left hj] at e
      obtain ⟨ls, e1, e2⟩ := b.it j jd e
      have hm := List.mem_of_getElem? e
      refine ⟨ls, by rw [List.getElem?_append_left (by rw [← b.len]; exact hj)]; exact e1, ?_⟩
      rw [ob_set_ne _ _ (show jd ≠ h from fun z => nd.1 (z ▸ hm)), ob_push_ne _ _ (Nat.ne_of_lt (hl _ hm))]
      exact e2
    · have hj' : j = ids.length := by
        have := (List.getElem?_eq_some_iff.mp e).1
        rw [List.length_append, List.length_singleton] at this
        omega
      subst hj'
      rw [List.getElem?_append_right (Nat.le_refl _)] at e
      simp at e
      subst e
      refine ⟨[], by rw [b.len, List.getElem?_append_right (Nat.le_refl _)]; simp, ?_⟩
      rw [ob_set_ne _ _ (by omega), ob_push_same]
      rfl
  · rw [List.nodup_cons]
    refine ⟨fun m => ?_, ?_⟩
    · rcases List.mem_append.mp m with m | m
      · exact nd.1 m
      · have : h = G.n := by simpa using m
        omega
    · rw [List.nodup_append]
      refine ⟨nd.2, by simp, fun a ha c hc => ?_⟩
      have e : c = G.n := by simpa using hc
      have := hl a ha
      omega
  · show j < G.n + 1
    rcases List.mem_cons.mp hj with z | hj
    · omega
    · rcases List.mem_append.mp hj with m | m
      · have := hl j m; omega
      · have : j = G.n := by simpa using m
        omega
/-! ### the ledger -/
structure Led (G : Gh) (L a l e r : Nat) (ids : List Nat) (lns : List (List Ln)) (es : List (Int × List D)) : Prop where
  ob : G.ob L = .ins 10 [(13, .ref a), (14, .ref l), (15, .ref e), (16, .ref r)]
  oa : ∃ acc : List Str, acc.length = lns.length ∧ G.ob a = .lst (acc.map fun s => .tup [.str "EUR", .str s])
  bn : Bn G l ids lns
  oe : G.ob e = .lst (es.map fun p => .tup (.int p.1 :: p.2))
  nd : ([L, a, e, r] ++ (l :: ids)).Nodup
  lt : ∀ j ∈ [L, a, e, r], j < G.n
def foot (L a l e r : Nat) (ids : List Nat) : List Nat := [L, a, e, r] ++ (l :: ids)
theorem Led.lt' {G : Gh} {L a l e r : Nat} {ids : List Nat} {lns : List (List Ln)} {es : List (Int × List D)} (h : Led G L a l e r ids lns es) : ∀ j ∈ foot L a l e r ids, j < G.n := fun j hj => (List.mem_append.mp hj).elim (h.lt j) (h.bn.lt j)
theorem Led.frame {G G' : Gh} {L a l e r : Nat} {ids : List Nat} {lns : List (List Ln)} {es : List (Int × List D)} (h : Led G L a l e r ids lns es) (hn : G.n ≤ G'.n) (hk : ∀ j ∈ foot L a l e r ids, G'.ob j = G.ob j) : Led G' L a l e r ids lns es := by
  obtain ⟨acc, h1, h2⟩ := h.oa
  exact ⟨(hk L (by simp [foot])).trans h.ob, ⟨acc, h1, (hk a (by simp [foot])).trans h2⟩, h.bn.frame hn fun j hj => hk j (List.mem_append_right _ hj), (hk e (by simp [foot])).trans h.oe, h.nd, fun j hj => Nat.lt_of_lt_of_le (h.lt j hj) hn⟩
theorem Led.fr {G G' : Gh} {L a l e r : Nat} {ids : List Nat} {lns : List (List Ln)} {es : List (Int × List D)} (h : Led G L a l e r ids lns es) (f : Fr G G') : Led G' L a l e r ids lns es := h.frame f.1 fun j hj => f.2 j (h.lt' j hj)
theorem Led.frx {G G' : Gh} {L a l e r : Nat} {ids x : List Nat} {lns : List (List Ln)} {es : List (Int × List D)} (h : Led G L a l e r ids lns es) (f : FrX x G G') (d : ∀ j ∈ foot L a l e r ids, j ∉ x) : Led G' L a l e r ids lns es := h.frame f.1 fun j hj => f.2 j (h.lt' j hj) (d j hj)
theorem currency_eur (G : Gh) : m_check_currency [.str "EUR"] G = .ok .non G := by kernel_rfl
section
variable {G : Gh} {L a l e r : Nat} {ids : List Nat} {lns : List (List Ln)} {es : List (Int × List D)}
theorem Led.f13 (h : Led G L a l e r ids lns es) : fldO na 13 (.ref L) G = some (.ref a) := fld_of h.ob rfl rfl
theorem Led.f14 (h : Led G L a l e r ids lns es) : fldO na 14 (.ref L) G = some (.ref l) := fld_of h.ob rfl rfl
theorem Led.f15 (h : Led G L a l e r ids lns es) : fldO na 15 (.ref L) G = some (.ref e) := fld_of h.ob rfl rfl
/-- an account that is there, that is not -/
theorem account_eq (h : Led G L a l e r ids lns es) (i : Int) : (1 ≤ i ∧ i ≤ lns.length → ∃ s, m_Ledger_account [.ref L, .int i] G = .ok (.tup [.str "EUR", .str s]) G) ∧ (¬ (1 ≤ i ∧ i ≤ lns.length) → m_Ledger_account [.ref L, .int i] G = .er 3 G) := by
  obtain ⟨acc, h1, h2⟩ := h.oa
  have hlen : lenD (.ref a) G = some acc.length := (len_lst h2).trans (by rw [List.length_map])
  constructor
  · rintro ⟨hi, hj⟩
    have hx : (i - 1).toNat < acc.length := by omega
    refine ⟨acc[(i - 1).toNat], ?_⟩
    apply eq_of_sat
    unfold m_Ledger_account b_Ledger_account
    rw [w_fun]
    refine ⟨rfl, ?_⟩
    rw [q_Ledger_account_1, w_seq]; simp only [w_ok, w_c, w_v, w_op, w_un, w_b, w_nil, w_cons, w_call, w_tup, w_lst, w_dct0, w_fld, w_meth, w_make, w_mt, w_get2, w_tru, w_asB, w_not, w_and, w_or, w_chain, w_andV, w_orV, w_notV, w_if, w_isi, w_pNone, w_pSome, w_sl, w_nx, w_brk, w_cnt, w_drop, w_ret, w_retN, w_sif, w_raise, gmN, gmT, gmAll, w_asg, w_sfld, w_ssub, w_saug, w_for, w_iseq, w_irng1, w_irng2, slotQ_some, opQ_some, opD_some, getQ_some, opB_some, blQ_bl, tyQ_some, inQ_int, evQ_some, ghQ_some, List.getElem?_cons_zero, List.getElem?_cons_succ, List.set_cons_zero, List.set_cons_succ, List.map_cons, List.map_nil, List.cons_append, List.nil_append, List.replicate, List.length_cons, List.length_nil, o_add, o_sub, o_lt, o_le, o_gt, o_ge, o_les, o_eq, o_ne, o_eqs, o_nes, o_eqb, o_neb, o_is, o_isNot, o_iadd, o_neg, b_int, b_min, b_max, h.f13, b_len hlen]
    have e1 : L2.atI (acc.map fun s => D.tup [.str "EUR", .str s]) (i - 1) = some (.tup [.str "EUR", .str acc[(i - 1).toNat]]) := by
      have z := atI_nat (xs := acc.map fun s => D.tup [.str "EUR", .str s]) (k := (i - 1).toNat) (by rw [List.length_map]; exact hx)
      rw [show (((i - 1).toNat : Nat) : Int) = i - 1 by omega] at z
      rw [z, List.getElem_map]
    rw [if_pos (by simp; exact hi), h1]
    simp only [decide_eq_true hj, Bool.not_true, Bool.false_eq_true, if_false]
    simp only [w_ok, w_c, w_v, w_op, w_un, w_b, w_nil, w_cons, w_call, w_tup, w_lst, w_dct0, w_fld, w_meth, w_make, w_mt, w_get2, w_tru, w_asB, w_not, w_and, w_or, w_chain, w_andV, w_orV, w_notV, w_if, w_isi, w_pNone, w_pSome, w_sl, w_nx, w_brk, w_cnt, w_drop, w_ret, w_retN, w_sif, w_raise, gmN, gmT, gmAll, w_asg, w_sfld, w_ssub, w_saug, w_for, w_iseq, w_irng1, w_irng2, slotQ_some, opQ_some, opD_some, getQ_some, opB_some, blQ_bl, tyQ_some, inQ_int, evQ_some, ghQ_some, List.getElem?_cons_zero, List.getElem?_cons_succ, List.set_cons_zero, List.set_cons_succ, List.map_cons, List.map_nil, List.cons_append, List.nil_append, List.replicate, List.length_cons, List.length_nil, o_add, o_sub, o_lt, o_le, o_gt, o_ge, o_les, o_eq, o_ne, o_eqs, o_nes, o_eqb, o_neb, o_is, o_isNot, o_iadd, o_neg, b_int, b_min, b_max, h.f13, ix_lst h2 e1]
    trivial
  · intro hn
    have : (m_Ledger_account [.ref L, .int i] G).sat (fun _ _ => False) (fun c G' => c = 3 ∧ G' = G) := by
      unfold m_Ledger_account b_Ledger_account
      rw [w_fun]
      refine ⟨rfl, ?_⟩
      rw [q_Ledger_account_1, w_seq]; simp only [w_ok, w_c, w_v, w_op, w_un, w_b, w_nil, w_cons, w_call, w_tup, w_lst, w_dct0, w_fld, w_meth, w_make, w_mt, w_get2, w_tru, w_asB, w_not, w_and, w_or, w_chain, w_andV, w_orV, w_notV, w_if, w_isi, w_pNone, w_pSome, w_sl, w_nx, w_brk, w_cnt, w_drop, w_ret, w_retN, w_sif, w_raise, gmN, gmT, gmAll, w_asg, w_sfld, w_ssub, w_saug, w_for, w_iseq, w_irng1, w_irng2, slotQ_some, opQ_some, opD_some, getQ_some, opB_some, blQ_bl, tyQ_some, inQ_int, evQ_some, ghQ_some, List.getElem?_cons_zero, List.getElem?_cons_succ, List.set_cons_zero, List.set_cons_succ, List.map_cons, List.map_nil, List.cons_append, List.nil_append, List.replicate, List.length_cons, List.length_nil, o_add, o_sub, o_lt, o_le, o_gt, o_ge, o_les, o_eq, o_ne, o_eqs, o_nes, o_eqb, o_neb, o_is, o_isNot, o_iadd, o_neg, b_int, b_min, b_max, h.f13, b_len hlen]
      by_cases hi : 1 ≤ i
      · rw [if_pos (by simp; exact hi), h1]
        have hj : ¬ i ≤ (lns.length : Int) := fun z => hn ⟨hi, z⟩
        simp only [decide_eq_false hj, Bool.not_false, if_true]
        trivial
      · rw [if_neg (by simp; omega)]
        trivial
    cases z : m_Ledger_account [.ref L, .int i] G with
    | ok d G' => rw [z] at this; exact this.elim
    | er c G' => rw [z] at this; rw [this.1, this.2]
    | no => rw [z] at this; exact this.elim
end
end Lw
namespace Lw
open PySem PySem.Spec PyProof.Rows L2 Mi
theorem eq_of_er {α : Type} {r : Rs α} {c : Nat} {G : Gh} (h : r.sat (fun _ _ => False) (fun c' G' => c' = c ∧ G' = G)) : r = .er c G := by
  cases r with
  | ok a' G' => exact h.elim
  | er c G' => rw [h.1, h.2]
  | no => exact h.elim
section
variable {G : Gh} {L a l e r : Nat} {ids : List Nat} {lns : List (List Ln)} {es : List (Int × List D)}
theorem currency_of_ok (h : Led G L a l e r ids lns es) {i : Int} (hi : 1 ≤ i ∧ i ≤ lns.length) : m_Ledger_currency_of [.ref L, .int i] G = .ok (.str "EUR") G := by
  obtain ⟨s, e1⟩ := (account_eq h i).1 hi
  apply eq_of_sat
  unfold m_Ledger_currency_of b_Ledger_currency_of
  rw [w_fun]
  refine ⟨rfl, ?_⟩
  simp only [w_ok, w_c, w_v, w_op, w_un, w_b, w_nil, w_cons, w_call, w_tup, w_lst, w_dct0, w_fld, w_meth, w_make, w_mt, w_get2, w_tru, w_asB, w_not, w_and, w_or, w_chain, w_andV, w_orV, w_notV, w_if, w_isi, w_pNone, w_pSome, w_sl, w_nx, w_brk, w_cnt, w_drop, w_ret, w_retN, w_sif, w_raise, gmN, gmT, gmAll, w_asg, w_sfld, w_ssub, w_saug, w_for, w_iseq, w_irng1, w_irng2, slotQ_some, opQ_some, opD_some, getQ_some, opB_some, blQ_bl, tyQ_some, inQ_int, evQ_some, ghQ_some, List.getElem?_cons_zero, List.getElem?_cons_succ, List.set_cons_zero, List.set_cons_succ, List.map_cons, List.map_nil, List.cons_append, List.nil_append, List.replicate, List.length_cons, List.length_nil, o_add, o_sub, o_lt, o_le, o_gt, o_ge, o_les, o_eq, o_ne, o_eqs, o_nes, o_eqb, o_neb, o_is, o_isNot, o_iadd, o_neg, b_int, b_min, b_max, insQ_of h.ob, e1]
  rw [ix_tup (d := .str "EUR") rfl]
  exact ⟨rfl, rfl⟩
theorem currency_of_er (h : Led G L a l e r ids lns es) {i : Int} (hi : ¬ (1 ≤ i ∧ i ≤ lns.length)) : m_Ledger_currency_of [.ref L, .int i] G = .er 3 G := by
  have e1 := (account_eq h i).2 hi
  apply eq_of_er
  unfold m_Ledger_currency_of b_Ledger_currency_of
  rw [w_fun]
  refine ⟨rfl, ?_⟩
  simp only [w_ok, w_c, w_v, w_op, w_un, w_b, w_nil, w_cons, w_call, w_tup, w_lst, w_dct0, w_fld, w_meth, w_make, w_mt, w_get2, w_tru, w_asB, w_not, w_and, w_or, w_chain, w_andV, w_orV, w_notV, w_if, w_isi, w_pNone, w_pSome, w_sl, w_nx, w_brk, w_cnt, w_drop, w_ret, w_retN, w_sif, w_raise, gmN, gmT, gmAll, w_asg, w_sfld, w_ssub, w_saug, w_for, w_iseq, w_irng1, w_irng2, slotQ_some, opQ_some, opD_some, getQ_some, opB_some, blQ_bl, tyQ_some, inQ_int, evQ_some, ghQ_some, List.getElem?_cons_zero, List.getElem?_cons_succ, List.set_cons_zero, List.set_cons_succ, List.map_cons, List.map_nil, List.cons_append, List.nil_append, List.replicate, List.length_cons, List.length_nil, o_add, o_sub, o_lt, o_le, o_gt, o_ge, o_les, o_eq, o_ne, o_eqs, o_nes, o_eqb, o_neb, o_is, o_isNot, o_iadd, o_neg, b_int, b_min, b_max, insQ_of h.ob, e1]
  exact ⟨rfl, rfl⟩
theorem idx_of {n : Nat} {i : Int} (hi : 1 ≤ i ∧ i ≤ n) : (((i - 1).toNat : Nat) : Int) = i - 1 ∧ (i - 1).toNat < n := by omega
theorem bn_ix {h : Nat} (b : Bn G h ids lns) {i : Int} (hi : 1 ≤ i ∧ i ≤ lns.length) : ∃ id ls, ids[(i - 1).toNat]? = some id ∧ lns[(i - 1).toNat]? = some ls ∧ G.ob id = .lst (ls.map lnD) ∧ id ∈ h :: ids ∧ opIx (.ref h) (.int (i - 1)) G = some (.ref id, G) := by
  obtain ⟨i1, i2⟩ := idx_of hi
  obtain ⟨id, ls, e1, e2, e3, e4⟩ := b.at i2
  refine ⟨id, ls, e1, e2, e3, e4, ix_lst b.oh ?_⟩
  have z := atI_nat (xs := ids.map D.ref) (k := (i - 1).toNat) (by rw [List.length_map, b.len]; exact i2)
  rw [i1] at z
  rw [z, List.getElem_map]
  have := (List.getElem?_eq_some_iff.mp e1).2
  rw [this]
theorem lines_of_ok (h : Led G L a l e r ids lns es) {i : Int} (hi : 1 ≤ i ∧ i ≤ lns.length) : ∃ ls, lns[(i - 1).toNat]? = some ls ∧ m_Ledger_lines_of [.ref L, .int i] G = .ok (.ref G.n) (G.push (.lst (ls.map lnD))) := by
  obtain ⟨s, e1⟩ := (account_eq h i).1 hi
  obtain ⟨id, ls, f1, f2, f3, f4, f5⟩ := bn_ix h.bn hi
  refine ⟨ls, f2, ?_⟩
  apply eq_of_sat
  unfold m_Ledger_lines_of b_Ledger_lines_of
  rw [w_fun]
  refine ⟨rfl, ?_⟩
  rw [q_Ledger_lines_of_1, w_seq]; simp only [w_ok, w_c, w_v, w_op, w_un, w_b, w_nil, w_cons, w_call, w_tup, w_lst, w_dct0, w_fld, w_meth, w_make, w_mt, w_get2, w_tru, w_asB, w_not, w_and, w_or, w_chain, w_andV, w_orV, w_notV, w_if, w_isi, w_pNone, w_pSome, w_sl, w_nx, w_brk, w_cnt, w_drop, w_ret, w_retN, w_sif, w_raise, gmN, gmT, gmAll, w_asg, w_sfld, w_ssub, w_saug, w_for, w_iseq, w_irng1, w_irng2, slotQ_some, opQ_some, opD_some, getQ_some, opB_some, blQ_bl, tyQ_some, inQ_int, evQ_some, ghQ_some, List.getElem?_cons_zero, List.getElem?_cons_succ, List.set_cons_zero, List.set_cons_succ, List.map_cons, List.map_nil, List.cons_append, List.nil_append, List.replicate, List.length_cons, List.length_nil, o_add, o_sub, o_lt, o_le, o_gt, o_ge, o_les, o_eq, o_ne, o_eqs, o_nes, o_eqb, o_neb, o_is, o_isNot, o_iadd, o_neg, b_int, b_min, b_max, insQ_of h.ob, e1]
  simp only [w_ok, w_c, w_v, w_op, w_un, w_b, w_nil, w_cons, w_call, w_tup, w_lst, w_dct0, w_fld, w_meth, w_make, w_mt, w_get2, w_tru, w_asB, w_not, w_and, w_or, w_chain, w_andV, w_orV, w_notV, w_if, w_isi, w_pNone, w_pSome, w_sl, w_nx, w_brk, w_cnt, w_drop, w_ret, w_retN, w_sif, w_raise, gmN, gmT, gmAll, w_asg, w_sfld, w_ssub, w_saug, w_for, w_iseq, w_irng1, w_irng2, slotQ_some, opQ_some, opD_some, getQ_some, opB_some, blQ_bl, tyQ_some, inQ_int, evQ_some, ghQ_some, List.getElem?_cons_zero, List.getElem?_cons_succ, List.set_cons_zero, List.set_cons_succ, List.map_cons, List.map_nil, List.cons_append, List.nil_append, List.replicate, List.length_cons, List.length_nil, o_add, o_sub, o_lt, o_le, o_gt, o_ge, o_les, o_eq, o_ne, o_eqs, o_nes, o_eqb, o_neb, o_is, o_isNot, o_iadd, o_neg, b_int, b_min, b_max, h.f14, f5, b_list f3]
  exact ⟨trivial, trivial⟩
theorem span_ok (h : Led G L a l e r ids lns es) {i f t : Int} (hi : 1 ≤ i ∧ i ≤ lns.length) (hs : 0 ≤ f ∧ f ≤ t ∧ t ≤ 36524) : m_check_span [.ref L, .int i, .int f, .int t] G = .ok .non G := by
  apply eq_of_sat
  unfold m_check_span b_check_span
  rw [w_fun]
  refine ⟨rfl, ?_⟩
  rw [q_check_span_1, w_seq]; simp only [w_ok, w_c, w_v, w_op, w_un, w_b, w_nil, w_cons, w_call, w_tup, w_lst, w_dct0, w_fld, w_meth, w_make, w_mt, w_get2, w_tru, w_asB, w_not, w_and, w_or, w_chain, w_andV, w_orV, w_notV, w_if, w_isi, w_pNone, w_pSome, w_sl, w_nx, w_brk, w_cnt, w_drop, w_ret, w_retN, w_sif, w_raise, gmN, gmT, gmAll, w_asg, w_sfld, w_ssub, w_saug, w_for, w_iseq, w_irng1, w_irng2, slotQ_some, opQ_some, opD_some, getQ_some, opB_some, blQ_bl, tyQ_some, inQ_int, evQ_some, ghQ_some, List.getElem?_cons_zero, List.getElem?_cons_succ, List.set_cons_zero, List.set_cons_succ, List.map_cons, List.map_nil, List.cons_append, List.nil_append, List.replicate, List.length_cons, List.length_nil, o_add, o_sub, o_lt, o_le, o_gt, o_ge, o_les, o_eq, o_ne, o_eqs, o_nes, o_eqb, o_neb, o_is, o_isNot, o_iadd, o_neg, b_int, b_min, b_max, insQ_of h.ob, currency_of_ok h hi]
  have e1 : (decide (0 ≤ f) && decide (f ≤ 36524)) = true := by simp; omega
  have e2 : (decide (0 ≤ t) && decide (t ≤ 36524)) = true := by simp; omega
  have e3 : decide (t < f) = false := by simp; omega
  simp only [w_ok, w_c, w_v, w_op, w_un, w_b, w_nil, w_cons, w_call, w_tup, w_lst, w_dct0, w_fld, w_meth, w_make, w_mt, w_get2, w_tru, w_asB, w_not, w_and, w_or, w_chain, w_andV, w_orV, w_notV, w_if, w_isi, w_pNone, w_pSome, w_sl, w_nx, w_brk, w_cnt, w_drop, w_ret, w_retN, w_sif, w_raise, gmN, gmT, gmAll, w_asg, w_sfld, w_ssub, w_saug, w_for, w_iseq, w_irng1, w_irng2, slotQ_some, opQ_some, opD_some, getQ_some, opB_some, blQ_bl, tyQ_some, inQ_int, evQ_some, ghQ_some, List.getElem?_cons_zero, List.getElem?_cons_succ, List.set_cons_zero, List.set_cons_succ, List.map_cons, List.map_nil, List.cons_append, List.nil_append, List.replicate, List.length_cons, List.length_nil, o_add, o_sub, o_lt, o_le, o_gt, o_ge, o_les, o_eq, o_ne, o_eqs, o_nes, o_eqb, o_neb, o_is, o_isNot, o_iadd, o_neg, b_int, b_min, b_max, is_day_eq, truD, e1, e2, e3, Bool.not_true, Bool.false_eq_true, if_false]
  exact ⟨trivial, trivial⟩
theorem span_er3 (h : Led G L a l e r ids lns es) {i f t : Int} (hi : ¬ (1 ≤ i ∧ i ≤ lns.length)) : m_check_span [.ref L, .int i, .int f, .int t] G = .er 3 G := by
  apply eq_of_er
  unfold m_check_span b_check_span
  rw [w_fun]
  refine ⟨rfl, ?_⟩
  rw [q_check_span_1, w_seq]; simp only [w_ok, w_c, w_v, w_op, w_un, w_b, w_nil, w_cons, w_call, w_tup, w_lst, w_dct0, w_fld, w_meth, w_make, w_mt, w_get2, w_tru, w_asB, w_not, w_and, w_or, w_chain, w_andV, w_orV, w_notV, w_if, w_isi, w_pNone, w_pSome, w_sl, w_nx, w_brk, w_cnt, w_drop, w_ret, w_retN, w_sif, w_raise, gmN, gmT, gmAll, w_asg, w_sfld, w_ssub, w_saug, w_for, w_iseq, w_irng1, w_irng2, slotQ_some, opQ_some, opD_some, getQ_some, opB_some, blQ_bl, tyQ_some, inQ_int, evQ_some, ghQ_some, List.getElem?_cons_zero, List.getElem?_cons_succ, List.set_cons_zero, List.set_cons_succ, List.map_cons, List.map_nil, List.cons_append, List.nil_append, List.replicate, List.length_cons, List.length_nil, o_add, o_sub, o_lt, o_le, o_gt, o_ge, o_les, o_eq, o_ne, o_eqs, o_nes, o_eqb, o_neb, o_is, o_isNot, o_iadd, o_neg, b_int, b_min, b_max, insQ_of h.ob, currency_of_er h hi]
  exact ⟨rfl, rfl⟩
theorem span_er2 (h : Led G L a l e r ids lns es) {i f t : Int} (hi : 1 ≤ i ∧ i ≤ lns.length) (hs : ¬ (0 ≤ f ∧ f ≤ t ∧ t ≤ 36524)) : m_check_span [.ref L, .int i, .int f, .int t] G = .er 2 G := by
  apply eq_of_er
  unfold m_check_span b_check_span
  rw [w_fun]
  refine ⟨rfl, ?_⟩
  rw [q_check_span_1, w_seq]; simp only [w_ok, w_c, w_v, w_op, w_un, w_b, w_nil, w_cons, w_call, w_tup, w_lst, w_dct0, w_fld, w_meth, w_make, w_mt, w_get2, w_tru, w_asB, w_not, w_and, w_or, w_chain, w_andV, w_orV, w_notV, w_if, w_isi, w_pNone, w_pSome, w_sl, w_nx, w_brk, w_cnt, w_drop, w_ret, w_retN, w_sif, w_raise, gmN, gmT, gmAll, w_asg, w_sfld, w_ssub, w_saug, w_for, w_iseq, w_irng1, w_irng2, slotQ_some, opQ_some, opD_some, getQ_some, opB_some, blQ_bl, tyQ_some, inQ_int, evQ_some, ghQ_some, List.getElem?_cons_zero, List.getElem?_cons_succ, List.set_cons_zero, List.set_cons_succ, List.map_cons, List.map_nil, List.cons_append, List.nil_append, List.replicate, List.length_cons, List.length_nil, o_add, o_sub, o_lt, o_le, o_gt, o_ge, o_les, o_eq, o_ne, o_eqs, o_nes, o_eqb, o_neb, o_is, o_isNot, o_iadd, o_neg, b_int, b_min, b_max, insQ_of h.ob, currency_of_ok h hi]
  simp only [w_ok, w_c, w_v, w_op, w_un, w_b, w_nil, w_cons, w_call, w_tup, w_lst, w_dct0, w_fld, w_meth, w_make, w_mt, w_get2, w_tru, w_asB, w_not, w_and, w_or, w_chain, w_andV, w_orV, w_notV, w_if, w_isi, w_pNone, w_pSome, w_sl, w_nx, w_brk, w_cnt, w_drop, w_ret, w_retN, w_sif, w_raise, gmN, gmT, gmAll, w_asg, w_sfld, w_ssub, w_saug, w_for, w_iseq, w_irng1, w_irng2, slotQ_some, opQ_some, opD_some, getQ_some, opB_some, blQ_bl, tyQ_some, inQ_int, evQ_some, ghQ_some, List.getElem?_cons_zero, List.getElem?_cons_succ, List.set_cons_zero, List.set_cons_succ, List.map_cons, List.map_nil, List.cons_append, List.nil_append, List.replicate, List.length_cons, List.length_nil, o_add, o_sub, o_lt, o_le, o_gt, o_ge, o_les, o_eq, o_ne, o_eqs, o_nes, o_eqb, o_neb, o_is, o_isNot, o_iadd, o_neg, b_int, b_min, b_max, is_day_eq, truD]
  cases e1 : (decide (0 ≤ f) && decide (f ≤ 36524)) with
  | false => simp [w_raise]
  | true =>
    cases e2 : (decide (0 ≤ t) && decide (t ≤ 36524)) with
    | false => simp [w_raise]
    | true =>
      have e3 : decide (t < f) = true := by
        simp at e1 e2 ⊢
        omega
      simp [w_raise, e3]
end
end Lw
namespace Lw
open PySem PySem.Spec PyProof.Rows L2 Mi
/-! ### the plain law: statements (k52) -/
abbrev Rw5 := Int × Int × Int × Int × Int
def rwD (r : Rw5) : D := .tup [.int r.1, .int r.2.1, .int r.2.2.1, .int r.2.2.2.1, .int r.2.2.2.2]
/-- the balance booked before a day -/
def opn (ls : List Ln) (f : Int) : Int := ls.foldl (fun b x => if x.2.1 < f then b + x.2.2.2 else b) 0
def stL (f t : Int) (s : Int × List Rw5) (x : Ln) : Int × List Rw5 :=
  if f ≤ x.2.1 ∧ x.2.1 ≤ t then (s.1 + x.2.2.2, s.2 ++ [(x.1, x.2.1, x.2.2.1, x.2.2.2, s.1 + x.2.2.2)]) else s
def inL (ls : List Ln) (f t : Int) : Int × List Rw5 := ls.foldl (stL f t) (opn ls f, [])
def stB (t b : Int) (x : Ln) : Int := if x.2.1 ≤ t then b + x.2.2.2 else b
def stP (f t : Int) (s : Int × Int × List Rw5) (x : Ln) : Int × Int × List Rw5 :=
  (if x.2.1 < f then s.1 + x.2.2.2 else s.1, stB t s.2.1 x, if x.2.1 < f then s.2.2 else if x.2.1 ≤ t then s.2.2 ++ [(x.1, x.2.1, x.2.2.1, x.2.2.2, stB t s.2.1 x)] else s.2.2)
def inP (ls : List Ln) (f t : Int) : Int × Int × List Rw5 := ls.foldl (stP f t) (0, 0, [])
theorem opn_app (ls : List Ln) (x : Ln) (f : Int) : opn (ls ++ [x]) f = if x.2.1 < f then opn ls f + x.2.2.2 else opn ls f := by unfold opn; rw [List.foldl_append]; rfl
theorem inP_app (ls : List Ln) (x : Ln) (f t : Int) : inP (ls ++ [x]) f t = stP f t (inP ls f t) x := by unfold inP; rw [List.foldl_append]; rfl
/-- booked in order -/
def Srt (ls : List Ln) (d : Int) : Prop := ls.Pairwise (fun x y => x.2.1 ≤ y.2.1) ∧ ∀ x ∈ ls, x.2.1 ≤ d
theorem Srt.mono {ls : List Ln} {d d' : Int} (h : Srt ls d) (hd : d ≤ d') : Srt ls d' := ⟨h.1, fun x hx => Int.le_trans (h.2 x hx) hd⟩
theorem Srt.app {ls : List Ln} {d : Int} {x : Ln} (h : Srt ls d) (hx : x.2.1 = d) : Srt (ls ++ [x]) d :=
  ⟨List.pairwise_append.mpr ⟨h.1, List.pairwise_singleton _ _, fun a ha b hb => by rw [List.mem_singleton.mp hb, hx]; exact h.2 a ha⟩, fun y hy => by
    rcases List.mem_append.mp hy with q | q
    · exact h.2 y q
    · rw [List.mem_singleton.mp q, hx]; exact Int.le_refl _⟩
theorem stL_none (f t : Int) : ∀ (ls : List Ln) (s : Int × List Rw5), (∀ x ∈ ls, x.2.1 < f) → ls.foldl (stL f t) s = s
  | [], s, _ => rfl
  | x :: ls, s, h => by
    have hx := h x (List.mem_cons_self ..)
    rw [List.foldl_cons, show stL f t s x = s by unfold stL; rw [if_neg (by omega)]]
    exact stL_none f t ls s fun y hy => h y (List.mem_cons_of_mem _ hy)
theorem in_eq {f t : Int} (hft : f ≤ t) : ∀ (n : Nat) (ls : List Ln), ls.length = n → ls.Pairwise (fun x y => x.2.1 ≤ y.2.1) → inP ls f t = (opn ls f, (inL ls f t).1, (inL ls f t).2)
  | 0, ls, hn, _ => by
    have : ls = [] := List.eq_nil_of_length_eq_zero hn
    subst this; rfl
  | n + 1, ls, hn, hp => by
    rcases List.eq_nil_or_concat ls with e | ⟨l, x, e⟩
    · subst e; cases hn
    · rw [List.concat_eq_append] at e
      subst e
      have hp' := List.pairwise_append.mp hp
      have ih := in_eq hft n l (by simpa using hn) hp'.1
      have hle : ∀ a ∈ l, a.2.1 ≤ x.2.1 := fun a ha => hp'.2.2 a ha x (List.mem_singleton.mpr rfl)
      rw [inP_app, ih]
      by_cases hx : x.2.1 < f
      · have hl : ∀ a ∈ l, a.2.1 < f := fun a ha => Int.lt_of_le_of_lt (hle a ha) hx
        have hl2 : ∀ a ∈ l ++ [x], a.2.1 < f := fun a ha => by
          rcases List.mem_append.mp ha with q | q
          · exact hl a q
          · rw [List.mem_singleton.mp q]; exact hx
        have e1 : inL l f t = (opn l f, []) := stL_none f t l _ hl
        have e2 : inL (l ++ [x]) f t = (opn (l ++ [x]) f, []) := stL_none f t _ _ hl2
        rw [e1, e2, opn_app, if_pos hx]
        unfold stP stB
        rw [if_pos hx, if_pos hx, if_pos (by omega)]
      · have e2 : inL (l ++ [x]) f t = stL f t (inL l f t) x := by
          unfold inL
          rw [opn_app, if_neg hx, List.foldl_append]; rfl
        rw [e2, opn_app, if_neg hx]
        unfold stP stB stL
        rw [if_neg hx, if_neg hx]
        by_cases h2 : x.2.1 ≤ t
        · rw [if_pos h2, if_pos h2, if_pos ⟨by omega, h2⟩]
        · rw [if_neg h2, if_neg h2, if_neg (fun z => h2 z.2)]
theorem stL_len (f t : Int) : ∀ (ls : List Ln) (s : Int × List Rw5), (ls.foldl (stL f t) s).2.length ≤ s.2.length + ls.length
  | [], s => Nat.le_refl _
  | x :: ls, s => by
    have := stL_len f t ls (stL f t s x)
    have h2 : (stL f t s x).2.length ≤ s.2.length + 1 := by
      unfold stL
      split
      · simp
      · omega
    rw [List.foldl_cons, List.length_cons]; omega
theorem stP_len (f t : Int) : ∀ (ls : List Ln) (s : Int × Int × List Rw5), (ls.foldl (stP f t) s).2.2.length ≤ s.2.2.length + ls.length
  | [], s => Nat.le_refl _
  | x :: ls, s => by
    have := stP_len f t ls (stP f t s x)
    have h2 : (stP f t s x).2.2.length ≤ s.2.2.length + 1 := by
      unfold stP
      dsimp only
      split
      · omega
      · split
        · simp
        · omega
    rw [List.foldl_cons, List.length_cons]; omega
theorem take_more {α : Type} {l : List α} {i : Nat} {x : α} (h : l[i]? = some x) : l.take (i + 1) = l.take i ++ [x] := by
  rw [List.take_add_one, h]; rfl
/-! the law's own answer -/
theorem due_miss {G : Gh} {h : Nat} {ids : List Nat} {lns : List (List Ln)} (b : Bn G h ids lns) {i f t : Int} (hi : ¬ (1 ≤ i ∧ i ≤ lns.length)) : m_law_due [.ref h, .int i, .int f, .int t] G = .ok (.str "Missing") G := by
  apply eq_of_sat
  unfold m_law_due b_law_due
  rw [w_fun]
  refine ⟨rfl, ?_⟩
  have hl : lenD (.ref h) G = some lns.length := (len_lst b.oh).trans (by rw [List.length_map, b.len])
  rw [q_law_due_2, w_seq]; simp only [w_ok, w_c, w_v, w_op, w_un, w_b, w_nil, w_cons, w_call, w_tup, w_lst, w_dct0, w_fld, w_meth, w_make, w_mt, w_get2, w_tru, w_asB, w_not, w_and, w_or, w_chain, w_andV, w_orV, w_notV, w_if, w_isi, w_pNone, w_pSome, w_sl, w_nx, w_brk, w_cnt, w_drop, w_ret, w_retN, w_sif, w_raise, gmN, gmT, gmAll, w_asg, w_sfld, w_ssub, w_saug, w_for, w_iseq, w_irng1, w_irng2, slotQ_some, opQ_some, opD_some, getQ_some, opB_some, blQ_bl, tyQ_some, inQ_int, evQ_some, ghQ_some, List.getElem?_cons_zero, List.getElem?_cons_succ, List.set_cons_zero, List.set_cons_succ, List.map_cons, List.map_nil, List.cons_append, List.nil_append, List.replicate, List.length_cons, List.length_nil, o_add, o_sub, o_lt, o_le, o_gt, o_ge, o_les, o_eq, o_ne, o_eqs, o_nes, o_eqb, o_neb, o_is, o_isNot, o_iadd, o_neg, b_int, b_min, b_max, b_len hl]
  by_cases h1 : 1 ≤ i
  · have h2 : ¬ i ≤ (lns.length : Int) := fun z => hi ⟨h1, z⟩
    simp [h1, h2]
  · simp [h1]
theorem due_day {G : Gh} {h : Nat} {ids : List Nat} {lns : List (List Ln)} (b : Bn G h ids lns) {i f t : Int} (hi : 1 ≤ i ∧ i ≤ lns.length) (hs : ¬ (0 ≤ f ∧ f ≤ t ∧ t ≤ 36524)) : m_law_due [.ref h, .int i, .int f, .int t] G = .ok (.str "BadDay") G := by
  apply eq_of_sat
  unfold m_law_due b_law_due
  rw [w_fun]
  refine ⟨rfl, ?_⟩
  have hl : lenD (.ref h) G = some lns.length := (len_lst b.oh).trans (by rw [List.length_map, b.len])
  rw [q_law_due_2, w_seq]; simp only [w_ok, w_c, w_v, w_op, w_un, w_b, w_nil, w_cons, w_call, w_tup, w_lst, w_dct0, w_fld, w_meth, w_make, w_mt, w_get2, w_tru, w_asB, w_not, w_and, w_or, w_chain, w_andV, w_orV, w_notV, w_if, w_isi, w_pNone, w_pSome, w_sl, w_nx, w_brk, w_cnt, w_drop, w_ret, w_retN, w_sif, w_raise, gmN, gmT, gmAll, w_asg, w_sfld, w_ssub, w_saug, w_for, w_iseq, w_irng1, w_irng2, slotQ_some, opQ_some, opD_some, getQ_some, opB_some, blQ_bl, tyQ_some, inQ_int, evQ_some, ghQ_some, List.getElem?_cons_zero, List.getElem?_cons_succ, List.set_cons_zero, List.set_cons_succ, List.map_cons, List.map_nil, List.cons_append, List.nil_append, List.replicate, List.length_cons, List.length_nil, o_add, o_sub, o_lt, o_le, o_gt, o_ge, o_les, o_eq, o_ne, o_eqs, o_nes, o_eqb, o_neb, o_is, o_isNot, o_iadd, o_neg, b_int, b_min, b_max, b_len hl]
  simp only [hi.1, hi.2, decide_true, if_true, Bool.not_true, Bool.false_eq_true, if_false]
  rw [q_law_due_3, w_seq]; simp only [w_ok, w_c, w_v, w_op, w_un, w_b, w_nil, w_cons, w_call, w_tup, w_lst, w_dct0, w_fld, w_meth, w_make, w_mt, w_get2, w_tru, w_asB, w_not, w_and, w_or, w_chain, w_andV, w_orV, w_notV, w_if, w_isi, w_pNone, w_pSome, w_sl, w_nx, w_brk, w_cnt, w_drop, w_ret, w_retN, w_sif, w_raise, gmN, gmT, gmAll, w_asg, w_sfld, w_ssub, w_saug, w_for, w_iseq, w_irng1, w_irng2, slotQ_some, opQ_some, opD_some, getQ_some, opB_some, blQ_bl, tyQ_some, inQ_int, evQ_some, ghQ_some, List.getElem?_cons_zero, List.getElem?_cons_succ, List.set_cons_zero, List.set_cons_succ, List.map_cons, List.map_nil, List.cons_append, List.nil_append, List.replicate, List.length_cons, List.length_nil, o_add, o_sub, o_lt, o_le, o_gt, o_ge, o_les, o_eq, o_ne, o_eqs, o_nes, o_eqb, o_neb, o_is, o_isNot, o_iadd, o_neg, b_int, b_min, b_max]
  by_cases h1 : f < 0
  · simp [h1]
  · by_cases h2 : 36524 < t
    · simp [h1, h2]
    · have h3 : t < f := by omega
      simp [h1, h2, h3]
theorem due_ok {G : Gh} {h : Nat} {ids : List Nat} {lns : List (List Ln)} (b : Bn G h ids lns) {i f t : Int} (hi : 1 ≤ i ∧ i ≤ lns.length) (hs : 0 ≤ f ∧ f ≤ t ∧ t ≤ 36524) (hz : ∀ ls ∈ lns, ls.length ≤ 1000) :
    ∃ ls id G', lns[(i - 1).toNat]? = some ls ∧ m_law_due [.ref h, .int i, .int f, .int t] G = .ok (.tup [.int (opn ls f), .ref id, .int (inL ls f t).1]) G' ∧ Fr G G' ∧ G.n ≤ id ∧ id < G'.n ∧ G'.ob id = .lst ((inL ls f t).2.map rwD) := by
  obtain ⟨sid, ls, f1, f2, f3, f4, f5⟩ := bn_ix b hi
  have hzl := hz ls (List.mem_of_getElem? f2)
  have key : (m_law_due [.ref h, .int i, .int f, .int t] G).sat (fun d G' => ∃ id, d = .tup [.int (opn ls f), .ref id, .int (inL ls f t).1] ∧ Fr G G' ∧ G.n ≤ id ∧ id < G'.n ∧ G'.ob id = .lst ((inL ls f t).2.map rwD)) nE := by
    unfold m_law_due b_law_due
    rw [w_fun]
    refine ⟨rfl, ?_⟩
    have hl : lenD (.ref h) G = some lns.length := (len_lst b.oh).trans (by rw [List.length_map, b.len])
    rw [q_law_due_2, w_seq]; simp only [w_ok, w_c, w_v, w_op, w_un, w_b, w_nil, w_cons, w_call, w_tup, w_lst, w_dct0, w_fld, w_meth, w_make, w_mt, w_get2, w_tru, w_asB, w_not, w_and, w_or, w_chain, w_andV, w_orV, w_notV, w_if, w_isi, w_pNone, w_pSome, w_sl, w_nx, w_brk, w_cnt, w_drop, w_ret, w_retN, w_sif, w_raise, gmN, gmT, gmAll, w_asg, w_sfld, w_ssub, w_saug, w_for, w_iseq, w_irng1, w_irng2, slotQ_some, opQ_some, opD_some, getQ_some, opB_some, blQ_bl, tyQ_some, inQ_int, evQ_some, ghQ_some, List.getElem?_cons_zero, List.getElem?_cons_succ, List.set_cons_zero, List.set_cons_succ, List.map_cons, List.map_nil, List.cons_append, List.nil_append, List.replicate, List.length_cons, List.length_nil, o_add, o_sub, o_lt, o_le, o_gt, o_ge, o_les, o_eq, o_ne, o_eqs, o_nes, o_eqb, o_neb, o_is, o_isNot, o_iadd, o_neg, b_int, b_min, b_max, b_len hl]
    simp only [hi.1, hi.2, decide_true, if_true, Bool.not_true, Bool.false_eq_true, if_false]
    rw [q_law_due_3, w_seq]; simp only [w_ok, w_c, w_v, w_op, w_un, w_b, w_nil, w_cons, w_call, w_tup, w_lst, w_dct0, w_fld, w_meth, w_make, w_mt, w_get2, w_tru, w_asB, w_not, w_and, w_or, w_chain, w_andV, w_orV, w_notV, w_if, w_isi, w_pNone, w_pSome, w_sl, w_nx, w_brk, w_cnt, w_drop, w_ret, w_retN, w_sif, w_raise, gmN, gmT, gmAll, w_asg, w_sfld, w_ssub, w_saug, w_for, w_iseq, w_irng1, w_irng2, slotQ_some, opQ_some, opD_some, getQ_some, opB_some, blQ_bl, tyQ_some, inQ_int, evQ_some, ghQ_some, List.getElem?_cons_zero, List.getElem?_cons_succ, List.set_cons_zero, List.set_cons_succ, List.map_cons, List.map_nil, List.cons_append, List.nil_append, List.replicate, List.length_cons, List.length_nil, o_add, o_sub, o_lt, o_le, o_gt, o_ge, o_les, o_eq, o_ne, o_eqs, o_nes, o_eqb, o_neb, o_is, o_isNot, o_iadd, o_neg, b_int, b_min, b_max]
    have h1 : ¬ f < 0 := by omega
    have h2 : ¬ 36524 < t := by omega
    have h3 : ¬ t < f := by omega
    simp only [h1, h2, h3, decide_false, Bool.false_eq_true, if_false]
    rw [q_law_due_4, w_seq]; simp only [w_ok, w_c, w_v, w_op, w_un, w_b, w_nil, w_cons, w_call, w_tup, w_lst, w_dct0, w_fld, w_meth, w_make, w_mt, w_get2, w_tru, w_asB, w_not, w_and, w_or, w_chain, w_andV, w_orV, w_notV, w_if, w_isi, w_pNone, w_pSome, w_sl, w_nx, w_brk, w_cnt, w_drop, w_ret, w_retN, w_sif, w_raise, gmN, gmT, gmAll, w_asg, w_sfld, w_ssub, w_saug, w_for, w_iseq, w_irng1, w_irng2, slotQ_some, opQ_some, opD_some, getQ_some, opB_some, blQ_bl, tyQ_some, inQ_int, evQ_some, ghQ_some, List.getElem?_cons_zero, List.getElem?_cons_succ, List.set_cons_zero, List.set_cons_succ, List.map_cons, List.map_nil, List.cons_append, List.nil_append, List.replicate, List.length_cons, List.length_nil, o_add, o_sub, o_lt, o_le, o_gt, o_ge, o_les, o_eq, o_ne, o_eqs, o_nes, o_eqb, o_neb, o_is, o_isNot, o_iadd, o_neg, b_int, b_min, b_max]
    rw [q_law_due_5, w_seq]; simp only [w_ok, w_c, w_v, w_op, w_un, w_b, w_nil, w_cons, w_call, w_tup, w_lst, w_dct0, w_fld, w_meth, w_make, w_mt, w_get2, w_tru, w_asB, w_not, w_and, w_or, w_chain, w_andV, w_orV, w_notV, w_if, w_isi, w_pNone, w_pSome, w_sl, w_nx, w_brk, w_cnt, w_drop, w_ret, w_retN, w_sif, w_raise, gmN, gmT, gmAll, w_asg, w_sfld, w_ssub, w_saug, w_for, w_iseq, w_irng1, w_irng2, slotQ_some, opQ_some, opD_some, getQ_some, opB_some, blQ_bl, tyQ_some, inQ_int, evQ_some, ghQ_some, List.getElem?_cons_zero, List.getElem?_cons_succ, List.set_cons_zero, List.set_cons_succ, List.map_cons, List.map_nil, List.cons_append, List.nil_append, List.replicate, List.length_cons, List.length_nil, o_add, o_sub, o_lt, o_le, o_gt, o_ge, o_les, o_eq, o_ne, o_eqs, o_nes, o_eqb, o_neb, o_is, o_isNot, o_iadd, o_neg, b_int, b_min, b_max]
    have b2 := b.fr (Fr.push G (.lst []))
    obtain ⟨sid2, ls2, g1, g2, g3, g4, g5⟩ := bn_ix b2 hi
    rw [f1] at g1; cases g1
    rw [f2] at g2; cases g2
    have hsid : sid < G.n := b.lt sid f4
    refine ⟨Nat.zero_le _, ?_⟩
    rw [q_law_due_6, w_seq]; simp only [w_ok, w_c, w_v, w_op, w_un, w_b, w_nil, w_cons, w_call, w_tup, w_lst, w_dct0, w_fld, w_meth, w_make, w_mt, w_get2, w_tru, w_asB, w_not, w_and, w_or, w_chain, w_andV, w_orV, w_notV, w_if, w_isi, w_pNone, w_pSome, w_sl, w_nx, w_brk, w_cnt, w_drop, w_ret, w_retN, w_sif, w_raise, gmN, gmT, gmAll, w_asg, w_sfld, w_ssub, w_saug, w_for, w_iseq, w_irng1, w_irng2, slotQ_some, opQ_some, opD_some, getQ_some, opB_some, blQ_bl, tyQ_some, inQ_int, evQ_some, ghQ_some, List.getElem?_cons_zero, List.getElem?_cons_succ, List.set_cons_zero, List.set_cons_succ, List.map_cons, List.map_nil, List.cons_append, List.nil_append, List.replicate, List.length_cons, List.length_nil, o_add, o_sub, o_lt, o_le, o_gt, o_ge, o_les, o_eq, o_ne, o_eqs, o_nes, o_eqb, o_neb, o_is, o_isNot, o_iadd, o_neg, b_int, b_min, b_max, g5]
    refine seq_lst_sat g3 (fun k e G' => ∃ (y6 y7 y8 y9 : Option D), e = [some (.ref h), some (.int i), some (.int f), some (.int t), some (.int (opn (ls.take k) f)), some (.ref G.n), y6, y7, y8, y9, none] ∧ G' = G.push (.lst [])) ⟨none, none, none, none, rfl, rfl⟩ ?_ ?_ ?_
    · rintro k e G' ⟨y6, y7, y8, y9, rfl, rfl⟩
      rw [ob_push_ne _ _ (by omega)]; exact f3
    · rintro k d e G' hd ⟨y6, y7, y8, y9, rfl, rfl⟩
      rw [List.getElem?_map] at hd
      obtain ⟨x, hx, rfl⟩ := Option.map_eq_some_iff.mp hd
      simp only [lnD, w_ok, w_c, w_v, w_op, w_un, w_b, w_nil, w_cons, w_call, w_tup, w_lst, w_dct0, w_fld, w_meth, w_make, w_mt, w_get2, w_tru, w_asB, w_not, w_and, w_or, w_chain, w_andV, w_orV, w_notV, w_if, w_isi, w_pNone, w_pSome, w_sl, w_nx, w_brk, w_cnt, w_drop, w_ret, w_retN, w_sif, w_raise, gmN, gmT, gmAll, w_asg, w_sfld, w_ssub, w_saug, w_for, w_iseq, w_irng1, w_irng2, slotQ_some, opQ_some, opD_some, getQ_some, opB_some, blQ_bl, tyQ_some, inQ_int, evQ_some, ghQ_some, List.getElem?_cons_zero, List.getElem?_cons_succ, List.set_cons_zero, List.set_cons_succ, List.map_cons, List.map_nil, List.cons_append, List.nil_append, List.replicate, List.length_cons, List.length_nil, o_add, o_sub, o_lt, o_le, o_gt, o_ge, o_les, o_eq, o_ne, o_eqs, o_nes, o_eqb, o_neb, o_is, o_isNot, o_iadd, o_neg, b_int, b_min, b_max]
      by_cases hc : x.2.1 < f
      · simp only [hc, decide_true, if_true]
        exact ⟨_, _, _, _, by rw [take_more hx, opn_app, if_pos hc], trivial⟩
      · simp only [hc, decide_false, Bool.false_eq_true, if_false]
        exact ⟨_, _, _, _, by rw [take_more hx, opn_app, if_neg hc], trivial⟩
    · rintro e G' ⟨y6, y7, y8, y9, rfl, rfl⟩
      rw [List.length_map, List.take_length]
      dsimp only
      rw [q_law_due_7, w_seq]; simp only [w_ok, w_c, w_v, w_op, w_un, w_b, w_nil, w_cons, w_call, w_tup, w_lst, w_dct0, w_fld, w_meth, w_make, w_mt, w_get2, w_tru, w_asB, w_not, w_and, w_or, w_chain, w_andV, w_orV, w_notV, w_if, w_isi, w_pNone, w_pSome, w_sl, w_nx, w_brk, w_cnt, w_drop, w_ret, w_retN, w_sif, w_raise, gmN, gmT, gmAll, w_asg, w_sfld, w_ssub, w_saug, w_for, w_iseq, w_irng1, w_irng2, slotQ_some, opQ_some, opD_some, getQ_some, opB_some, blQ_bl, tyQ_some, inQ_int, evQ_some, ghQ_some, List.getElem?_cons_zero, List.getElem?_cons_succ, List.set_cons_zero, List.set_cons_succ, List.map_cons, List.map_nil, List.cons_append, List.nil_append, List.replicate, List.length_cons, List.length_nil, o_add, o_sub, o_lt, o_le, o_gt, o_ge, o_les, o_eq, o_ne, o_eqs, o_nes, o_eqb, o_neb, o_is, o_isNot, o_iadd, o_neg, b_int, b_min, b_max]
      rw [q_law_due_8, w_seq]; simp only [w_ok, w_c, w_v, w_op, w_un, w_b, w_nil, w_cons, w_call, w_tup, w_lst, w_dct0, w_fld, w_meth, w_make, w_mt, w_get2, w_tru, w_asB, w_not, w_and, w_or, w_chain, w_andV, w_orV, w_notV, w_if, w_isi, w_pNone, w_pSome, w_sl, w_nx, w_brk, w_cnt, w_drop, w_ret, w_retN, w_sif, w_raise, gmN, gmT, gmAll, w_asg, w_sfld, w_ssub, w_saug, w_for, w_iseq, w_irng1, w_irng2, slotQ_some, opQ_some, opD_some, getQ_some, opB_some, blQ_bl, tyQ_some, inQ_int, evQ_some, ghQ_some, List.getElem?_cons_zero, List.getElem?_cons_succ, List.set_cons_zero, List.set_cons_succ, List.map_cons, List.map_nil, List.cons_append, List.nil_append, List.replicate, List.length_cons, List.length_nil, o_add, o_sub, o_lt, o_le, o_gt, o_ge, o_les, o_eq, o_ne, o_eqs, o_nes, o_eqb, o_neb, o_is, o_isNot, o_iadd, o_neg, b_int, b_min, b_max, g5]
      refine seq_lst_sat g3 (fun k e G' => ∃ (y6 y7 y8 y9 : Option D), e = [some (.ref h), some (.int i), some (.int f), some (.int t), some (.int ((ls.take k).foldl (stL f t) (opn ls f, [])).1), some (.ref G.n), y6, y7, y8, y9, some (.int (opn ls f))] ∧ G' = G.push (.lst (((ls.take k).foldl (stL f t) (opn ls f, [])).2.map rwD))) ⟨_, _, _, _, rfl, rfl⟩ ?_ ?_ ?_
      · rintro k e G' ⟨y6, y7, y8, y9, rfl, rfl⟩
        rw [ob_push_ne _ _ (by omega)]; exact f3
      · rintro k d e G' hd ⟨y6, y7, y8, y9, rfl, rfl⟩
        rw [List.getElem?_map] at hd
        obtain ⟨x, hx, rfl⟩ := Option.map_eq_some_iff.mp hd
        have hk : k < ls.length := (List.getElem?_eq_some_iff.mp hx).1
        generalize hs0 : (ls.take k).foldl (stL f t) (opn ls f, []) = s
        have hsl : s.2.length ≤ k := by
          have := stL_len f t (ls.take k) (opn ls f, [])
          rw [hs0, List.length_take] at this
          simp at this
          omega
        have hnew : (ls.take (k + 1)).foldl (stL f t) (opn ls f, []) = stL f t s x := by rw [take_more hx, List.foldl_append, hs0]; rfl
        have ho : (G.push (.lst (s.2.map rwD))).ob G.n = .lst (s.2.map rwD) := ob_push_same _ _
        have lo : isLst (.ref G.n) (G.push (.lst (s.2.map rwD))) = true := isLst_of ho
        have ap : ∀ z : D, mAppend (.ref G.n) [z] (G.push (.lst (s.2.map rwD))) = some (.non, G.push (.lst (s.2.map rwD ++ [z]))) := fun z => by rw [m_append ho (sz2 (by rw [List.length_map]; omega)), push_set]
        simp only [lnD, w_ok, w_c, w_v, w_op, w_un, w_b, w_nil, w_cons, w_call, w_tup, w_lst, w_dct0, w_fld, w_meth, w_make, w_mt, w_get2, w_tru, w_asB, w_not, w_and, w_or, w_chain, w_andV, w_orV, w_notV, w_if, w_isi, w_pNone, w_pSome, w_sl, w_nx, w_brk, w_cnt, w_drop, w_ret, w_retN, w_sif, w_raise, gmN, gmT, gmAll, w_asg, w_sfld, w_ssub, w_saug, w_for, w_iseq, w_irng1, w_irng2, slotQ_some, opQ_some, opD_some, getQ_some, opB_some, blQ_bl, tyQ_some, inQ_int, evQ_some, ghQ_some, List.getElem?_cons_zero, List.getElem?_cons_succ, List.set_cons_zero, List.set_cons_succ, List.map_cons, List.map_nil, List.cons_append, List.nil_append, List.replicate, List.length_cons, List.length_nil, o_add, o_sub, o_lt, o_le, o_gt, o_ge, o_les, o_eq, o_ne, o_eqs, o_nes, o_eqb, o_neb, o_is, o_isNot, o_iadd, o_neg, b_int, b_min, b_max]
        by_cases hc : f ≤ x.2.1
        · by_cases hc2 : x.2.1 ≤ t
          · simp only [hc, hc2, decide_true, if_true]
            rw [q_law_due_1, w_seq]
            simp only [w_ok, w_c, w_v, w_op, w_un, w_b, w_nil, w_cons, w_call, w_tup, w_lst, w_dct0, w_fld, w_meth, w_make, w_mt, w_get2, w_tru, w_asB, w_not, w_and, w_or, w_chain, w_andV, w_orV, w_notV, w_if, w_isi, w_pNone, w_pSome, w_sl, w_nx, w_brk, w_cnt, w_drop, w_ret, w_retN, w_sif, w_raise, gmN, gmT, gmAll, w_asg, w_sfld, w_ssub, w_saug, w_for, w_iseq, w_irng1, w_irng2, slotQ_some, opQ_some, opD_some, getQ_some, opB_some, blQ_bl, tyQ_some, inQ_int, evQ_some, ghQ_some, List.getElem?_cons_zero, List.getElem?_cons_succ, List.set_cons_zero, List.set_cons_succ, List.map_cons, List.map_nil, List.cons_append, List.nil_append, List.replicate, List.length_cons, List.length_nil, o_add, o_sub, o_lt, o_le, o_gt, o_ge, o_les, o_eq, o_ne, o_eqs, o_nes, o_eqb, o_neb, o_is, o_isNot, o_iadd, o_neg, b_int, b_min, b_max, lo, ap, true_and]
            refine ⟨by decide, some (.int x.1), some (.int x.2.1), some (.int x.2.2.1), some (.int x.2.2.2), ?_, ?_⟩
            · rw [hnew]; unfold stL; rw [if_pos ⟨hc, hc2⟩]
            · rw [hnew]; unfold stL; rw [if_pos ⟨hc, hc2⟩, List.map_append]; rfl
          · simp only [hc, hc2, decide_true, decide_false, if_true, Bool.false_eq_true, if_false]
            refine ⟨some (.int x.1), some (.int x.2.1), some (.int x.2.2.1), some (.int x.2.2.2), ?_, ?_⟩
            · rw [hnew]; unfold stL; rw [if_neg (fun z => hc2 z.2)]
            · rw [hnew]; unfold stL; rw [if_neg (fun z => hc2 z.2)]
        · simp only [hc, decide_false, Bool.false_eq_true, if_false]
          refine ⟨some (.int x.1), some (.int x.2.1), some (.int x.2.2.1), some (.int x.2.2.2), ?_, ?_⟩
          · rw [hnew]; unfold stL; rw [if_neg (fun z => hc z.1)]
          · rw [hnew]; unfold stL; rw [if_neg (fun z => hc z.1)]
      · rintro e G' ⟨y6, y7, y8, y9, rfl, rfl⟩
        rw [List.length_map, List.take_length]
        dsimp only
        simp only [w_ok, w_c, w_v, w_op, w_un, w_b, w_nil, w_cons, w_call, w_tup, w_lst, w_dct0, w_fld, w_meth, w_make, w_mt, w_get2, w_tru, w_asB, w_not, w_and, w_or, w_chain, w_andV, w_orV, w_notV, w_if, w_isi, w_pNone, w_pSome, w_sl, w_nx, w_brk, w_cnt, w_drop, w_ret, w_retN, w_sif, w_raise, gmN, gmT, gmAll, w_asg, w_sfld, w_ssub, w_saug, w_for, w_iseq, w_irng1, w_irng2, slotQ_some, opQ_some, opD_some, getQ_some, opB_some, blQ_bl, tyQ_some, inQ_int, evQ_some, ghQ_some, List.getElem?_cons_zero, List.getElem?_cons_succ, List.set_cons_zero, List.set_cons_succ, List.map_cons, List.map_nil, List.cons_append, List.nil_append, List.replicate, List.length_cons, List.length_nil, o_add, o_sub, o_lt, o_le, o_gt, o_ge, o_les, o_eq, o_ne, o_eqs, o_nes, o_eqb, o_neb, o_is, o_isNot, o_iadd, o_neg, b_int, b_min, b_max]
        refine ⟨by decide, _, rfl, Fr.push G _, Nat.le_refl _, by rw [n_push]; omega, ob_push_same _ _⟩
  obtain ⟨d, G', e, id, rfl, g1, g2, g3, g4⟩ := Rs.ok_of key
  exact ⟨ls, id, G', f2, e, g1, g2, g3, g4⟩
end Lw
namespace Mi
open PySem PySem.Spec PyProof.Rows L2
theorem w_tryAs {sb : Nat → Option Bool} {i : Nat} {mb : Sm} {hm : Nat → Sm} {env : Ev} {G : Gh} {q : Pq} : (sTryAs sb i mb hm env G).sat q ↔ (mb env G).sat ⟨q.nx, q.rt, fun c e G1 => match sb c with
    | some true => i < e.length ∧ ((hm c e G1).clr i).sat q
    | some false => q.er c e G1
    | none => False, q.bk, q.ct⟩ := by
  unfold sTryAs
  cases mb env G with
  | er c e G1 =>
    show Ro.sat _ q ↔ (match sb c with
      | some true => i < e.length ∧ ((hm c e G1).clr i).sat q
      | some false => q.er c e G1
      | none => False)
    dsimp only
    cases sb c with
    | none => exact Iff.rfl
    | some b =>
      cases b with
      | false => exact Iff.rfl
      | true =>
        dsimp only
        split
        · rename_i h; exact ⟨fun k => ⟨h, k⟩, fun k => k.2⟩
        · rename_i h; exact ⟨fun k => k.elim, fun k => h k.1⟩
  | _ => exact Iff.rfl
theorem w_isE {c : Nat} {tab : List (Nat × Bool)} {r : Ev} {G : Gh} {Q : D → Gh → Prop} {E : Nat → Gh → Prop} : (eIsE 0 0 c tab (some (.exc 0) :: r) G).sat Q E ↔ opB (sbOf tab c) fun b => Q (.bl b) G := by
  unfold eIsE
  dsimp only [List.getElem?_cons_zero]
  rw [if_pos rfl]
  cases sbOf tab c <;> exact Iff.rfl
end Mi
namespace Lw
open PySem PySem.Spec PyProof.Rows L2 Mi
theorem class_eq (c : Nat) (nm : Str) (h : (c = 2 ∧ nm = "BadDay") ∨ (c = 3 ∧ nm = "Missing")) (G : Gh) : m_law_class 0 c [.exc 0] G = .ok (.str nm) (G.push (.lst [.str nm])) := by
  apply eq_of_sat
  unfold m_law_class b_law_class
  rw [w_fun]
  refine ⟨rfl, ?_⟩
  have o1 : (G.push (.lst [])).ob G.n = .lst [] := ob_push_same _ _
  have l1 : isLst (.ref G.n) (G.push (.lst [])) = true := isLst_of o1
  have a1 : ∀ z : D, mAppend (.ref G.n) [z] (G.push (.lst [])) = some (.non, G.push (.lst [z])) := fun z => by rw [m_append o1 (by decide), push_set]; rfl
  have n1 : lenD (.ref G.n) (G.push (.lst [.str nm])) = some 1 := len_lst (xs := [.str nm]) (ob_push_same _ _)
  have x1 : opIx (.ref G.n) (.int 0) (G.push (.lst [.str nm])) = some (.str nm, G.push (.lst [.str nm])) := ix_lst (xs := [.str nm]) (ob_push_same _ _) rfl
  rcases h with ⟨rfl, rfl⟩ | ⟨rfl, rfl⟩
  all_goals
    simp only [q_law_class_1, q_law_class_2, q_law_class_3, q_law_class_4, w_seq, w_isE, w_ok, w_c, w_v, w_op, w_un, w_b, w_nil, w_cons, w_call, w_tup, w_lst, w_dct0, w_fld, w_meth, w_make, w_mt, w_get2, w_tru, w_asB, w_not, w_and, w_or, w_chain, w_andV, w_orV, w_notV, w_if, w_isi, w_pNone, w_pSome, w_sl, w_nx, w_brk, w_cnt, w_drop, w_ret, w_retN, w_sif, w_raise, gmN, gmT, gmAll, w_asg, w_sfld, w_ssub, w_saug, w_for, w_iseq, w_irng1, w_irng2, slotQ_some, opQ_some, opD_some, getQ_some, opB_some, blQ_bl, tyQ_some, inQ_int, evQ_some, ghQ_some, List.getElem?_cons_zero, List.getElem?_cons_succ, List.set_cons_zero, List.set_cons_succ, List.map_cons, List.map_nil, List.cons_append, List.nil_append, List.replicate, List.length_cons, List.length_nil, o_add, o_sub, o_lt, o_le, o_gt, o_ge, o_les, o_eq, o_ne, o_eqs, o_nes, o_eqb, o_neb, o_is, o_isNot, o_iadd, o_neg, b_int, b_min, b_max, Nat.zero_le, true_and, l1, a1, b_len n1, x1, truD,
      show sbOf tab_BadDay 2 = some true from rfl, show sbOf tab_BadDay 3 = some false from rfl,
      show sbOf tab_Missing 2 = some false from rfl, show sbOf tab_Missing 3 = some true from rfl, show sbOf tab_ValueError 2 = some true from rfl, show sbOf tab_ValueError 3 = some true from rfl, if_true, if_false, Bool.false_eq_true, Int.ofNat_one, decide_true]
section
variable {G : Gh} {L a l e r : Nat} {ids : List Nat} {lns : List (List Ln)} {es : List (Int × List D)}
theorem ask_er (i f t : Int) (c : Nat) (nm : Str) (hc : (c = 2 ∧ nm = "BadDay") ∨ (c = 3 ∧ nm = "Missing")) (he : m_statement [.ref L, .int i, .int f, .int t] G = .er c G) : m_law_ask [.ref L, .int i, .int f, .int t] G = .ok (.str nm) (G.push (.lst [.str nm])) := by
  apply eq_of_sat
  unfold m_law_ask b_law_ask
  rw [w_fun]
  refine ⟨rfl, ?_⟩
  rw [q_law_ask_1, w_seq, w_tryAs]
  have hs : sb_0 c = some true := by rcases hc with ⟨rfl, _⟩ | ⟨rfl, _⟩ <;> rfl
  simp only [w_ok, w_c, w_v, w_op, w_un, w_b, w_nil, w_cons, w_call, w_tup, w_lst, w_dct0, w_fld, w_meth, w_make, w_mt, w_get2, w_tru, w_asB, w_not, w_and, w_or, w_chain, w_andV, w_orV, w_notV, w_if, w_isi, w_pNone, w_pSome, w_sl, w_nx, w_brk, w_cnt, w_drop, w_ret, w_retN, w_sif, w_raise, gmN, gmT, gmAll, w_asg, w_sfld, w_ssub, w_saug, w_for, w_iseq, w_irng1, w_irng2, slotQ_some, opQ_some, opD_some, getQ_some, opB_some, blQ_bl, tyQ_some, inQ_int, evQ_some, ghQ_some, List.getElem?_cons_zero, List.getElem?_cons_succ, List.set_cons_zero, List.set_cons_succ, List.map_cons, List.map_nil, List.cons_append, List.nil_append, List.replicate, List.length_cons, List.length_nil, o_add, o_sub, o_lt, o_le, o_gt, o_ge, o_les, o_eq, o_ne, o_eqs, o_nes, o_eqb, o_neb, o_is, o_isNot, o_iadd, o_neg, b_int, b_min, b_max, he]
  show (match sb_0 c with | some true => _ | some false => _ | none => False)
  rw [hs]
  refine ⟨by decide, ?_⟩
  unfold h0_law_ask_1 h_law_ask_1
  have : (sRet (eCall (m_law_class 0 c) (aCons (eVar 5) aNil)) ([some (.ref L), some (.int i), some (.int f), some (.int t), none, some (.exc 0)] : Ev) G) = .rt (.str nm) (G.push (.lst [.str nm])) := by
    unfold sRet eCall aCons aNil eVar
    simp [Rs.bind, exS, class_eq c nm hc]
  show Ro.sat (Ro.clr 5 (sRet (eCall (m_law_class 0 c) (aCons (eVar 5) aNil)) ([some (.ref L), some (.int i), some (.int f), some (.int t), none, some (.exc 0)] : Ev) G)) _
  rw [this]
  exact ⟨rfl, rfl⟩
theorem ask_ok (i f t : Int) {d : D} {G' : Gh} (he : m_statement [.ref L, .int i, .int f, .int t] G = .ok d G') : m_law_ask [.ref L, .int i, .int f, .int t] G = .ok d G' := by
  apply eq_of_sat
  unfold m_law_ask b_law_ask
  rw [w_fun]
  refine ⟨rfl, ?_⟩
  rw [q_law_ask_1, w_seq, w_tryAs]
  simp only [w_ok, w_c, w_v, w_op, w_un, w_b, w_nil, w_cons, w_call, w_tup, w_lst, w_dct0, w_fld, w_meth, w_make, w_mt, w_get2, w_tru, w_asB, w_not, w_and, w_or, w_chain, w_andV, w_orV, w_notV, w_if, w_isi, w_pNone, w_pSome, w_sl, w_nx, w_brk, w_cnt, w_drop, w_ret, w_retN, w_sif, w_raise, gmN, gmT, gmAll, w_asg, w_sfld, w_ssub, w_saug, w_for, w_iseq, w_irng1, w_irng2, slotQ_some, opQ_some, opD_some, getQ_some, opB_some, blQ_bl, tyQ_some, inQ_int, evQ_some, ghQ_some, List.getElem?_cons_zero, List.getElem?_cons_succ, List.set_cons_zero, List.set_cons_succ, List.map_cons, List.map_nil, List.cons_append, List.nil_append, List.replicate, List.length_cons, List.length_nil, o_add, o_sub, o_lt, o_le, o_gt, o_ge, o_les, o_eq, o_ne, o_eqs, o_nes, o_eqb, o_neb, o_is, o_isNot, o_iadd, o_neg, b_int, b_min, b_max, he]
  exact ⟨trivial, trivial⟩
theorem stat_er3 (h : Led G L a l e r ids lns es) {i f t : Int} (hi : ¬ (1 ≤ i ∧ i ≤ lns.length)) : m_statement [.ref L, .int i, .int f, .int t] G = .er 3 G := by
  apply eq_of_er
  unfold m_statement b_statement
  rw [w_fun]
  refine ⟨rfl, ?_⟩
  rw [q_statement_2, w_seq]; simp only [w_ok, w_c, w_v, w_op, w_un, w_b, w_nil, w_cons, w_call, w_tup, w_lst, w_dct0, w_fld, w_meth, w_make, w_mt, w_get2, w_tru, w_asB, w_not, w_and, w_or, w_chain, w_andV, w_orV, w_notV, w_if, w_isi, w_pNone, w_pSome, w_sl, w_nx, w_brk, w_cnt, w_drop, w_ret, w_retN, w_sif, w_raise, gmN, gmT, gmAll, w_asg, w_sfld, w_ssub, w_saug, w_for, w_iseq, w_irng1, w_irng2, slotQ_some, opQ_some, opD_some, getQ_some, opB_some, blQ_bl, tyQ_some, inQ_int, evQ_some, ghQ_some, List.getElem?_cons_zero, List.getElem?_cons_succ, List.set_cons_zero, List.set_cons_succ, List.map_cons, List.map_nil, List.cons_append, List.nil_append, List.replicate, List.length_cons, List.length_nil, o_add, o_sub, o_lt, o_le, o_gt, o_ge, o_les, o_eq, o_ne, o_eqs, o_nes, o_eqb, o_neb, o_is, o_isNot, o_iadd, o_neg, b_int, b_min, b_max, span_er3 (f := f) (t := t) h hi]
  exact ⟨rfl, rfl⟩
theorem stat_er2 (h : Led G L a l e r ids lns es) {i f t : Int} (hi : 1 ≤ i ∧ i ≤ lns.length) (hs : ¬ (0 ≤ f ∧ f ≤ t ∧ t ≤ 36524)) : m_statement [.ref L, .int i, .int f, .int t] G = .er 2 G := by
  apply eq_of_er
  unfold m_statement b_statement
  rw [w_fun]
  refine ⟨rfl, ?_⟩
  rw [q_statement_2, w_seq]; simp only [w_ok, w_c, w_v, w_op, w_un, w_b, w_nil, w_cons, w_call, w_tup, w_lst, w_dct0, w_fld, w_meth, w_make, w_mt, w_get2, w_tru, w_asB, w_not, w_and, w_or, w_chain, w_andV, w_orV, w_notV, w_if, w_isi, w_pNone, w_pSome, w_sl, w_nx, w_brk, w_cnt, w_drop, w_ret, w_retN, w_sif, w_raise, gmN, gmT, gmAll, w_asg, w_sfld, w_ssub, w_saug, w_for, w_iseq, w_irng1, w_irng2, slotQ_some, opQ_some, opD_some, getQ_some, opB_some, blQ_bl, tyQ_some, inQ_int, evQ_some, ghQ_some, List.getElem?_cons_zero, List.getElem?_cons_succ, List.set_cons_zero, List.set_cons_succ, List.map_cons, List.map_nil, List.cons_append, List.nil_append, List.replicate, List.length_cons, List.length_nil, o_add, o_sub, o_lt, o_le, o_gt, o_ge, o_les, o_eq, o_ne, o_eqs, o_nes, o_eqb, o_neb, o_is, o_isNot, o_iadd, o_neg, b_int, b_min, b_max, span_er2 h hi hs]
  exact ⟨rfl, rfl⟩
theorem stat_ok (h : Led G L a l e r ids lns es) {i f t : Int} (hi : 1 ≤ i ∧ i ≤ lns.length) (hs : 0 ≤ f ∧ f ≤ t ∧ t ≤ 36524) (hz : ∀ ls ∈ lns, ls.length ≤ 1000) :
    ∃ ls id G', lns[(i - 1).toNat]? = some ls ∧ m_statement [.ref L, .int i, .int f, .int t] G = .ok (.tup [.int (inP ls f t).1, .ref id, .int (inP ls f t).2.1]) G' ∧ Fr G G' ∧ G.n ≤ id ∧ id < G'.n ∧ G'.ob id = .lst ((inP ls f t).2.2.map rwD) := by
  obtain ⟨sid, ls, f1, f2, f3, f4, f5⟩ := bn_ix h.bn hi
  have hzl := hz ls (List.mem_of_getElem? f2)
  have key : (m_statement [.ref L, .int i, .int f, .int t] G).sat (fun d G' => ∃ id, d = .tup [.int (inP ls f t).1, .ref id, .int (inP ls f t).2.1] ∧ Fr G G' ∧ G.n ≤ id ∧ id < G'.n ∧ G'.ob id = .lst ((inP ls f t).2.2.map rwD)) nE := by
    unfold m_statement b_statement
    rw [w_fun]
    refine ⟨rfl, ?_⟩
    rw [q_statement_2, w_seq]; simp only [w_ok, w_c, w_v, w_op, w_un, w_b, w_nil, w_cons, w_call, w_tup, w_lst, w_dct0, w_fld, w_meth, w_make, w_mt, w_get2, w_tru, w_asB, w_not, w_and, w_or, w_chain, w_andV, w_orV, w_notV, w_if, w_isi, w_pNone, w_pSome, w_sl, w_nx, w_brk, w_cnt, w_drop, w_ret, w_retN, w_sif, w_raise, gmN, gmT, gmAll, w_asg, w_sfld, w_ssub, w_saug, w_for, w_iseq, w_irng1, w_irng2, slotQ_some, opQ_some, opD_some, getQ_some, opB_some, blQ_bl, tyQ_some, inQ_int, evQ_some, ghQ_some, List.getElem?_cons_zero, List.getElem?_cons_succ, List.set_cons_zero, List.set_cons_succ, List.map_cons, List.map_nil, List.cons_append, List.nil_append, List.replicate, List.length_cons, List.length_nil, o_add, o_sub, o_lt, o_le, o_gt, o_ge, o_les, o_eq, o_ne, o_eqs, o_nes, o_eqb, o_neb, o_is, o_isNot, o_iadd, o_neg, b_int, b_min, b_max, span_ok h hi hs]
    rw [q_statement_3, w_seq]; simp only [w_ok, w_c, w_v, w_op, w_un, w_b, w_nil, w_cons, w_call, w_tup, w_lst, w_dct0, w_fld, w_meth, w_make, w_mt, w_get2, w_tru, w_asB, w_not, w_and, w_or, w_chain, w_andV, w_orV, w_notV, w_if, w_isi, w_pNone, w_pSome, w_sl, w_nx, w_brk, w_cnt, w_drop, w_ret, w_retN, w_sif, w_raise, gmN, gmT, gmAll, w_asg, w_sfld, w_ssub, w_saug, w_for, w_iseq, w_irng1, w_irng2, slotQ_some, opQ_some, opD_some, getQ_some, opB_some, blQ_bl, tyQ_some, inQ_int, evQ_some, ghQ_some, List.getElem?_cons_zero, List.getElem?_cons_succ, List.set_cons_zero, List.set_cons_succ, List.map_cons, List.map_nil, List.cons_append, List.nil_append, List.replicate, List.length_cons, List.length_nil, o_add, o_sub, o_lt, o_le, o_gt, o_ge, o_les, o_eq, o_ne, o_eqs, o_nes, o_eqb, o_neb, o_is, o_isNot, o_iadd, o_neg, b_int, b_min, b_max]
    rw [q_statement_4, w_seq]; simp only [w_ok, w_c, w_v, w_op, w_un, w_b, w_nil, w_cons, w_call, w_tup, w_lst, w_dct0, w_fld, w_meth, w_make, w_mt, w_get2, w_tru, w_asB, w_not, w_and, w_or, w_chain, w_andV, w_orV, w_notV, w_if, w_isi, w_pNone, w_pSome, w_sl, w_nx, w_brk, w_cnt, w_drop, w_ret, w_retN, w_sif, w_raise, gmN, gmT, gmAll, w_asg, w_sfld, w_ssub, w_saug, w_for, w_iseq, w_irng1, w_irng2, slotQ_some, opQ_some, opD_some, getQ_some, opB_some, blQ_bl, tyQ_some, inQ_int, evQ_some, ghQ_some, List.getElem?_cons_zero, List.getElem?_cons_succ, List.set_cons_zero, List.set_cons_succ, List.map_cons, List.map_nil, List.cons_append, List.nil_append, List.replicate, List.length_cons, List.length_nil, o_add, o_sub, o_lt, o_le, o_gt, o_ge, o_les, o_eq, o_ne, o_eqs, o_nes, o_eqb, o_neb, o_is, o_isNot, o_iadd, o_neg, b_int, b_min, b_max]
    rw [q_statement_5, w_seq]; simp only [w_ok, w_c, w_v, w_op, w_un, w_b, w_nil, w_cons, w_call, w_tup, w_lst, w_dct0, w_fld, w_meth, w_make, w_mt, w_get2, w_tru, w_asB, w_not, w_and, w_or, w_chain, w_andV, w_orV, w_notV, w_if, w_isi, w_pNone, w_pSome, w_sl, w_nx, w_brk, w_cnt, w_drop, w_ret, w_retN, w_sif, w_raise, gmN, gmT, gmAll, w_asg, w_sfld, w_ssub, w_saug, w_for, w_iseq, w_irng1, w_irng2, slotQ_some, opQ_some, opD_some, getQ_some, opB_some, blQ_bl, tyQ_some, inQ_int, evQ_some, ghQ_some, List.getElem?_cons_zero, List.getElem?_cons_succ, List.set_cons_zero, List.set_cons_succ, List.map_cons, List.map_nil, List.cons_append, List.nil_append, List.replicate, List.length_cons, List.length_nil, o_add, o_sub, o_lt, o_le, o_gt, o_ge, o_les, o_eq, o_ne, o_eqs, o_nes, o_eqb, o_neb, o_is, o_isNot, o_iadd, o_neg, b_int, b_min, b_max]
    refine ⟨Nat.zero_le _, ?_⟩
    have h2 := h.fr (Fr.push G (.lst []))
    obtain ⟨ls2, g2, g3⟩ := lines_of_ok h2 hi
    rw [f2] at g2; cases g2
    rw [q_statement_6, w_seq]; simp only [w_ok, w_c, w_v, w_op, w_un, w_b, w_nil, w_cons, w_call, w_tup, w_lst, w_dct0, w_fld, w_meth, w_make, w_mt, w_get2, w_tru, w_asB, w_not, w_and, w_or, w_chain, w_andV, w_orV, w_notV, w_if, w_isi, w_pNone, w_pSome, w_sl, w_nx, w_brk, w_cnt, w_drop, w_ret, w_retN, w_sif, w_raise, gmN, gmT, gmAll, w_asg, w_sfld, w_ssub, w_saug, w_for, w_iseq, w_irng1, w_irng2, slotQ_some, opQ_some, opD_some, getQ_some, opB_some, blQ_bl, tyQ_some, inQ_int, evQ_some, ghQ_some, List.getElem?_cons_zero, List.getElem?_cons_succ, List.set_cons_zero, List.set_cons_succ, List.map_cons, List.map_nil, List.cons_append, List.nil_append, List.replicate, List.length_cons, List.length_nil, o_add, o_sub, o_lt, o_le, o_gt, o_ge, o_les, o_eq, o_ne, o_eqs, o_nes, o_eqb, o_neb, o_is, o_isNot, o_iadd, o_neg, b_int, b_min, b_max, insQ_of h2.ob, g3]
    rw [n_push]
    refine seq_lst_sat (l := G.n + 1) (xs := ls.map lnD) (ob_push_same (G.push (.lst [])) _) (fun k e G' => ∃ (y7 y8 y9 y10 : Option D), e = [some (.ref L), some (.int i), some (.int f), some (.int t), some (.int ((ls.take k).foldl (stP f t) (0, 0, [])).1), some (.int ((ls.take k).foldl (stP f t) (0, 0, [])).2.1), some (.ref G.n), y7, y8, y9, y10] ∧ Fr G G' ∧ G'.n = G.n + 2 ∧ G'.ob G.n = .lst (((ls.take k).foldl (stP f t) (0, 0, [])).2.2.map rwD) ∧ G'.ob (G.n + 1) = .lst (ls.map lnD))
      ⟨none, none, none, none, rfl, (Fr.push G _).trans (Fr.push _ _), rfl, ?_, ob_push_same (G.push (.lst [])) _⟩ ?_ ?_ ?_
    · rw [ob_push_ne _ _ (by rw [n_push]; omega)]
      exact ob_push_same _ _
    · rintro k e G' ⟨y7, y8, y9, y10, rfl, _, _, _, ho⟩
      exact ho
    · rintro k d e G' hd ⟨y7, y8, y9, y10, rfl, F, hn, ho, h1⟩
      rw [List.getElem?_map] at hd
      obtain ⟨x, hx, rfl⟩ := Option.map_eq_some_iff.mp hd
      have hk : k < ls.length := (List.getElem?_eq_some_iff.mp hx).1
      have hnew : (ls.take (k + 1)).foldl (stP f t) (0, 0, []) = stP f t ((ls.take k).foldl (stP f t) (0, 0, [])) x := by rw [take_more hx, List.foldl_append]; rfl
      rw [hnew]
      have hsl : ((ls.take k).foldl (stP f t) (0, 0, [])).2.2.length ≤ k := by
        have := stP_len f t (ls.take k) (0, 0, [])
        rw [List.length_take] at this
        simp at this
        omega
      generalize (ls.take k).foldl (stP f t) (0, 0, []) = s at ho hsl ⊢
      have lo : isLst (.ref G.n) G' = true := isLst_of ho
      have ap : ∀ z : D, mAppend (.ref G.n) [z] G' = some (.non, G'.set G.n (.lst (s.2.2.map rwD ++ [z]))) := fun z => m_append ho (sz2 (by rw [List.length_map]; omega))
      have ne1 : ∀ o, (G'.set G.n o).ob (G.n + 1) = .lst (ls.map lnD) := fun o => by rw [ob_set_ne _ _ (by omega)]; exact h1
      simp only [lnD, w_ok, w_c, w_v, w_op, w_un, w_b, w_nil, w_cons, w_call, w_tup, w_lst, w_dct0, w_fld, w_meth, w_make, w_mt, w_get2, w_tru, w_asB, w_not, w_and, w_or, w_chain, w_andV, w_orV, w_notV, w_if, w_isi, w_pNone, w_pSome, w_sl, w_nx, w_brk, w_cnt, w_drop, w_ret, w_retN, w_sif, w_raise, gmN, gmT, gmAll, w_asg, w_sfld, w_ssub, w_saug, w_for, w_iseq, w_irng1, w_irng2, slotQ_some, opQ_some, opD_some, getQ_some, opB_some, blQ_bl, tyQ_some, inQ_int, evQ_some, ghQ_some, List.getElem?_cons_zero, List.getElem?_cons_succ, List.set_cons_zero, List.set_cons_succ, List.map_cons, List.map_nil, List.cons_append, List.nil_append, List.replicate, List.length_cons, List.length_nil, o_add, o_sub, o_lt, o_le, o_gt, o_ge, o_les, o_eq, o_ne, o_eqs, o_nes, o_eqb, o_neb, o_is, o_isNot, o_iadd, o_neg, b_int, b_min, b_max]
      rw [q_statement_1, w_seq]
      simp only [w_ok, w_c, w_v, w_op, w_un, w_b, w_nil, w_cons, w_call, w_tup, w_lst, w_dct0, w_fld, w_meth, w_make, w_mt, w_get2, w_tru, w_asB, w_not, w_and, w_or, w_chain, w_andV, w_orV, w_notV, w_if, w_isi, w_pNone, w_pSome, w_sl, w_nx, w_brk, w_cnt, w_drop, w_ret, w_retN, w_sif, w_raise, gmN, gmT, gmAll, w_asg, w_sfld, w_ssub, w_saug, w_for, w_iseq, w_irng1, w_irng2, slotQ_some, opQ_some, opD_some, getQ_some, opB_some, blQ_bl, tyQ_some, inQ_int, evQ_some, ghQ_some, List.getElem?_cons_zero, List.getElem?_cons_succ, List.set_cons_zero, List.set_cons_succ, List.map_cons, List.map_nil, List.cons_append, List.nil_append, List.replicate, List.length_cons, List.length_nil, o_add, o_sub, o_lt, o_le, o_gt, o_ge, o_les, o_eq, o_ne, o_eqs, o_nes, o_eqb, o_neb, o_is, o_isNot, o_iadd, o_neg, b_int, b_min, b_max]
      by_cases hc2 : x.2.1 ≤ t
      · simp only [hc2, decide_true, if_true]
        by_cases hc : x.2.1 < f
        · simp only [hc, decide_true, if_true]
          refine ⟨some (.int x.1), some (.int x.2.1), some (.int x.2.2.1), some (.int x.2.2.2), ?_, F, hn, ?_, h1⟩
          · unfold stP stB; rw [if_pos hc, if_pos hc2]
          · unfold stP; dsimp only; rw [if_pos hc]; exact ho
        · simp only [hc, decide_false, Bool.false_eq_true, if_false]
          simp only [w_ok, w_c, w_v, w_op, w_un, w_b, w_nil, w_cons, w_call, w_tup, w_lst, w_dct0, w_fld, w_meth, w_make, w_mt, w_get2, w_tru, w_asB, w_not, w_and, w_or, w_chain, w_andV, w_orV, w_notV, w_if, w_isi, w_pNone, w_pSome, w_sl, w_nx, w_brk, w_cnt, w_drop, w_ret, w_retN, w_sif, w_raise, gmN, gmT, gmAll, w_asg, w_sfld, w_ssub, w_saug, w_for, w_iseq, w_irng1, w_irng2, slotQ_some, opQ_some, opD_some, getQ_some, opB_some, blQ_bl, tyQ_some, inQ_int, evQ_some, ghQ_some, List.getElem?_cons_zero, List.getElem?_cons_succ, List.set_cons_zero, List.set_cons_succ, List.map_cons, List.map_nil, List.cons_append, List.nil_append, List.replicate, List.length_cons, List.length_nil, o_add, o_sub, o_lt, o_le, o_gt, o_ge, o_les, o_eq, o_ne, o_eqs, o_nes, o_eqb, o_neb, o_is, o_isNot, o_iadd, o_neg, b_int, b_min, b_max, lo, ap, true_and]
          refine ⟨by decide, some (.int x.1), some (.int x.2.1), some (.int x.2.2.1), some (.int x.2.2.2), ?_, F.set _ (Nat.le_refl _), hn, ?_, ne1 _⟩
          · unfold stP stB; rw [if_neg hc, if_pos hc2]
          · rw [ob_set_same]
            unfold stP stB; dsimp only; rw [if_neg hc, if_pos hc2, if_pos hc2, List.map_append]; rfl
      · have hc : ¬ x.2.1 < f := by omega
        simp only [hc, hc2, decide_false, Bool.false_eq_true, if_false]
        refine ⟨some (.int x.1), some (.int x.2.1), some (.int x.2.2.1), some (.int x.2.2.2), ?_, F, hn, ?_, h1⟩
        · unfold stP stB; rw [if_neg hc, if_neg hc2]
        · unfold stP; dsimp only; rw [if_neg hc, if_neg hc2]; exact ho
    · rintro e G' ⟨y7, y8, y9, y10, rfl, F, hn, ho, h1⟩
      rw [List.length_map, List.take_length] at ho ⊢
      dsimp only
      simp only [w_ok, w_c, w_v, w_op, w_un, w_b, w_nil, w_cons, w_call, w_tup, w_lst, w_dct0, w_fld, w_meth, w_make, w_mt, w_get2, w_tru, w_asB, w_not, w_and, w_or, w_chain, w_andV, w_orV, w_notV, w_if, w_isi, w_pNone, w_pSome, w_sl, w_nx, w_brk, w_cnt, w_drop, w_ret, w_retN, w_sif, w_raise, gmN, gmT, gmAll, w_asg, w_sfld, w_ssub, w_saug, w_for, w_iseq, w_irng1, w_irng2, slotQ_some, opQ_some, opD_some, getQ_some, opB_some, blQ_bl, tyQ_some, inQ_int, evQ_some, ghQ_some, List.getElem?_cons_zero, List.getElem?_cons_succ, List.set_cons_zero, List.set_cons_succ, List.map_cons, List.map_nil, List.cons_append, List.nil_append, List.replicate, List.length_cons, List.length_nil, o_add, o_sub, o_lt, o_le, o_gt, o_ge, o_les, o_eq, o_ne, o_eqs, o_nes, o_eqb, o_neb, o_is, o_isNot, o_iadd, o_neg, b_int, b_min, b_max]
      refine ⟨by decide, _, rfl, F, Nat.le_refl _, by omega, ho⟩
  obtain ⟨d, G', e, id, rfl, g1, g2, g3, g4⟩ := Rs.ok_of key
  exact ⟨ls, id, G', f2, e, g1, g2, g3, g4⟩
end
theorem same_str (n : Nat) (x : Str) (G : Gh) : m_law_same (n + 1) [.str x, .str x] G = .ok (.bl true) G := by
  apply eq_of_sat
  unfold m_law_same b_law_same
  rw [w_fun]
  refine ⟨rfl, ?_⟩
  simp only [q_law_same_1, q_law_same_2, q_law_same_3, q_law_same_4, w_seq, w_ok, w_c, w_v, w_op, w_un, w_b, w_nil, w_cons, w_call, w_tup, w_lst, w_dct0, w_fld, w_meth, w_make, w_mt, w_get2, w_tru, w_asB, w_not, w_and, w_or, w_chain, w_andV, w_orV, w_notV, w_if, w_isi, w_pNone, w_pSome, w_sl, w_nx, w_brk, w_cnt, w_drop, w_ret, w_retN, w_sif, w_raise, gmN, gmT, gmAll, w_asg, w_sfld, w_ssub, w_saug, w_for, w_iseq, w_irng1, w_irng2, slotQ_some, opQ_some, opD_some, getQ_some, opB_some, blQ_bl, tyQ_some, inQ_int, evQ_some, ghQ_some, List.getElem?_cons_zero, List.getElem?_cons_succ, List.set_cons_zero, List.set_cons_succ, List.map_cons, List.map_nil, List.cons_append, List.nil_append, List.replicate, List.length_cons, List.length_nil, o_add, o_sub, o_lt, o_le, o_gt, o_ge, o_les, o_eq, o_ne, o_eqs, o_nes, o_eqb, o_neb, o_is, o_isNot, o_iadd, o_neg, b_int, b_min, b_max, Mi.isNon, tyD, isTy, truD, Nat.reduceBEq, Bool.and_false, Bool.and_true, Bool.or_false, Bool.false_eq_true, if_false, if_true, Bool.and_self, decide_true]
  trivial
theorem same_int (n : Nat) (x : Int) (G : Gh) : m_law_same (n + 1) [.int x, .int x] G = .ok (.bl true) G := by
  apply eq_of_sat
  unfold m_law_same b_law_same
  rw [w_fun]
  refine ⟨rfl, ?_⟩
  simp only [q_law_same_1, q_law_same_2, q_law_same_3, w_seq, w_ok, w_c, w_v, w_op, w_un, w_b, w_nil, w_cons, w_call, w_tup, w_lst, w_dct0, w_fld, w_meth, w_make, w_mt, w_get2, w_tru, w_asB, w_not, w_and, w_or, w_chain, w_andV, w_orV, w_notV, w_if, w_isi, w_pNone, w_pSome, w_sl, w_nx, w_brk, w_cnt, w_drop, w_ret, w_retN, w_sif, w_raise, gmN, gmT, gmAll, w_asg, w_sfld, w_ssub, w_saug, w_for, w_iseq, w_irng1, w_irng2, slotQ_some, opQ_some, opD_some, getQ_some, opB_some, blQ_bl, tyQ_some, inQ_int, evQ_some, ghQ_some, List.getElem?_cons_zero, List.getElem?_cons_succ, List.set_cons_zero, List.set_cons_succ, List.map_cons, List.map_nil, List.cons_append, List.nil_append, List.replicate, List.length_cons, List.length_nil, o_add, o_sub, o_lt, o_le, o_gt, o_ge, o_les, o_eq, o_ne, o_eqs, o_nes, o_eqb, o_neb, o_is, o_isNot, o_iadd, o_neg, b_int, b_min, b_max, Mi.isNon, tyD, isTy, truD, Nat.reduceBEq, Bool.and_false, Bool.and_true, Bool.or_false, Bool.false_eq_true, if_false, if_true, Bool.and_self, decide_true, Bool.not_false]
  trivial
end Lw
namespace Lw
open PySem PySem.Spec PyProof.Rows L2 Mi
theorem atI_get {xs : List D} {k : Nat} {x : D} (h : xs[k]? = some x) : L2.atI xs (0 + (k : Int)) = some x := by
  obtain ⟨hk, rfl⟩ := List.getElem?_eq_some_iff.mp h
  rw [Int.zero_add]; exact atI_nat hk
theorem same_lst (n : Nat) (xs ys : List D) (p p' : Nat) (G : Gh) (h1 : G.ob p = .lst xs) (h2 : G.ob p' = .lst ys) (hl : xs.length = ys.length) (hz : xs.length ≤ 1000000) (he : ∀ (k : Nat) (x y : D), xs[k]? = some x → ys[k]? = some y → m_law_same n [x, y] G = .ok (.bl true) G) : m_law_same (n + 1) [.ref p, .ref p'] G = .ok (.bl true) G := by
  apply eq_of_sat
  rw [m_law_same]
  unfold b_law_same
  rw [w_fun]
  refine ⟨rfl, ?_⟩
  have t1 : tyD (.ref p) G = some 5 := ty_lst h1
  have t2 : tyD (.ref p') G = some 5 := ty_lst h2
  have l1 : lenD (.ref p) G = some xs.length := len_lst h1
  have l2 : lenD (.ref p') G = some xs.length := (len_lst h2).trans (by rw [hl])
  simp only [q_law_same_1, q_law_same_2, q_law_same_3, q_law_same_4, q_law_same_5, q_law_same_6, q_law_same_7, w_seq, w_ok, w_c, w_v, w_op, w_un, w_b, w_nil, w_cons, w_call, w_tup, w_lst, w_dct0, w_fld, w_meth, w_make, w_mt, w_get2, w_tru, w_asB, w_not, w_and, w_or, w_chain, w_andV, w_orV, w_notV, w_if, w_isi, w_pNone, w_pSome, w_sl, w_nx, w_brk, w_cnt, w_drop, w_ret, w_retN, w_sif, w_raise, gmN, gmT, gmAll, w_asg, w_sfld, w_ssub, w_saug, w_for, w_iseq, w_irng1, w_irng2, slotQ_some, opQ_some, opD_some, getQ_some, opB_some, blQ_bl, tyQ_some, inQ_int, evQ_some, ghQ_some, List.getElem?_cons_zero, List.getElem?_cons_succ, List.set_cons_zero, List.set_cons_succ, List.map_cons, List.map_nil, List.cons_append, List.nil_append, List.replicate, List.length_cons, List.length_nil, o_add, o_sub, o_lt, o_le, o_gt, o_ge, o_les, o_eq, o_ne, o_eqs, o_nes, o_eqb, o_neb, o_is, o_isNot, o_iadd, o_neg, b_int, b_min, b_max, Mi.isNon, t1, t2, isTy, truD, Nat.reduceBEq, Bool.and_false, Bool.and_true, Bool.or_false, Bool.false_eq_true, if_false, if_true, Bool.and_self, decide_true, Bool.not_false, b_len l1, b_len l2, Bool.not_true, rng1]
  refine rng_sat ⟨by omega⟩ (fun k e G' => ∃ y, e = [some (.ref p), some (.ref p'), y] ∧ G' = G) ⟨none, rfl, rfl⟩ ?_ ?_
  · rintro k e G' hk ⟨y, rfl, rfl⟩
    have hk' : k < xs.length := by omega
    have e1 : xs[k]? = some xs[k] := List.getElem?_eq_getElem hk'
    have e2 : ys[k]? = some ys[k] := List.getElem?_eq_getElem (hl ▸ hk')
    have i1 : opIx (.ref p) (.int (0 + (k : Int))) G' = some (xs[k], G') := ix_lst h1 (atI_get e1)
    have i2 : opIx (.ref p') (.int (0 + (k : Int))) G' = some (ys[k], G') := ix_lst h2 (atI_get e2)
    simp only [w_ok, w_c, w_v, w_op, w_un, w_b, w_nil, w_cons, w_call, w_tup, w_lst, w_dct0, w_fld, w_meth, w_make, w_mt, w_get2, w_tru, w_asB, w_not, w_and, w_or, w_chain, w_andV, w_orV, w_notV, w_if, w_isi, w_pNone, w_pSome, w_sl, w_nx, w_brk, w_cnt, w_drop, w_ret, w_retN, w_sif, w_raise, gmN, gmT, gmAll, w_asg, w_sfld, w_ssub, w_saug, w_for, w_iseq, w_irng1, w_irng2, slotQ_some, opQ_some, opD_some, getQ_some, opB_some, blQ_bl, tyQ_some, inQ_int, evQ_some, ghQ_some, List.getElem?_cons_zero, List.getElem?_cons_succ, List.set_cons_zero, List.set_cons_succ, List.map_cons, List.map_nil, List.cons_append, List.nil_append, List.replicate, List.length_cons, List.length_nil, o_add, o_sub, o_lt, o_le, o_gt, o_ge, o_les, o_eq, o_ne, o_eqs, o_nes, o_eqb, o_neb, o_is, o_isNot, o_iadd, o_neg, b_int, b_min, b_max, i1, i2, he k _ _ e1 e2, truD, Bool.not_true, Bool.false_eq_true, if_false]
    exact ⟨_, rfl, trivial⟩
  · rintro e G' ⟨y, rfl, rfl⟩
    exact ⟨trivial, rfl⟩
theorem same_tup (n : Nat) (xs ys : List D) (G : Gh) (hl : xs.length = ys.length) (hz : xs.length ≤ 1000000) (he : ∀ (k : Nat) (x y : D), xs[k]? = some x → ys[k]? = some y → m_law_same n [x, y] G = .ok (.bl true) G) : m_law_same (n + 1) [.tup xs, .tup ys] G = .ok (.bl true) G := by
  apply eq_of_sat
  rw [m_law_same]
  unfold b_law_same
  rw [w_fun]
  refine ⟨rfl, ?_⟩
  have t1 : tyD (.tup xs) G = some 4 := rfl
  have t2 : tyD (.tup ys) G = some 4 := rfl
  have l1 : lenD (.tup xs) G = some xs.length := rfl
  have l2 : lenD (.tup ys) G = some xs.length := by rw [hl]; rfl
  simp only [q_law_same_1, q_law_same_2, q_law_same_3, q_law_same_4, q_law_same_5, q_law_same_6, q_law_same_7, w_seq, w_ok, w_c, w_v, w_op, w_un, w_b, w_nil, w_cons, w_call, w_tup, w_lst, w_dct0, w_fld, w_meth, w_make, w_mt, w_get2, w_tru, w_asB, w_not, w_and, w_or, w_chain, w_andV, w_orV, w_notV, w_if, w_isi, w_pNone, w_pSome, w_sl, w_nx, w_brk, w_cnt, w_drop, w_ret, w_retN, w_sif, w_raise, gmN, gmT, gmAll, w_asg, w_sfld, w_ssub, w_saug, w_for, w_iseq, w_irng1, w_irng2, slotQ_some, opQ_some, opD_some, getQ_some, opB_some, blQ_bl, tyQ_some, inQ_int, evQ_some, ghQ_some, List.getElem?_cons_zero, List.getElem?_cons_succ, List.set_cons_zero, List.set_cons_succ, List.map_cons, List.map_nil, List.cons_append, List.nil_append, List.replicate, List.length_cons, List.length_nil, o_add, o_sub, o_lt, o_le, o_gt, o_ge, o_les, o_eq, o_ne, o_eqs, o_nes, o_eqb, o_neb, o_is, o_isNot, o_iadd, o_neg, b_int, b_min, b_max, Mi.isNon, t1, t2, isTy, truD, Nat.reduceBEq, Bool.and_false, Bool.and_true, Bool.or_false, Bool.false_eq_true, if_false, if_true, Bool.and_self, decide_true, Bool.not_false, b_len l1, b_len l2, Bool.not_true, rng1]
  refine rng_sat ⟨by omega⟩ (fun k e G' => ∃ y, e = [some (.tup xs), some (.tup ys), y] ∧ G' = G) ⟨none, rfl, rfl⟩ ?_ ?_
  · rintro k e G' hk ⟨y, rfl, rfl⟩
    have hk' : k < xs.length := by omega
    have e1 : xs[k]? = some xs[k] := List.getElem?_eq_getElem hk'
    have e2 : ys[k]? = some ys[k] := List.getElem?_eq_getElem (hl ▸ hk')
    have i1 : opIx (.tup xs) (.int (0 + (k : Int))) G' = some (xs[k], G') := ix_tup (atI_get e1)
    have i2 : opIx (.tup ys) (.int (0 + (k : Int))) G' = some (ys[k], G') := ix_tup (atI_get e2)
    simp only [w_ok, w_c, w_v, w_op, w_un, w_b, w_nil, w_cons, w_call, w_tup, w_lst, w_dct0, w_fld, w_meth, w_make, w_mt, w_get2, w_tru, w_asB, w_not, w_and, w_or, w_chain, w_andV, w_orV, w_notV, w_if, w_isi, w_pNone, w_pSome, w_sl, w_nx, w_brk, w_cnt, w_drop, w_ret, w_retN, w_sif, w_raise, gmN, gmT, gmAll, w_asg, w_sfld, w_ssub, w_saug, w_for, w_iseq, w_irng1, w_irng2, slotQ_some, opQ_some, opD_some, getQ_some, opB_some, blQ_bl, tyQ_some, inQ_int, evQ_some, ghQ_some, List.getElem?_cons_zero, List.getElem?_cons_succ, List.set_cons_zero, List.set_cons_succ, List.map_cons, List.map_nil, List.cons_append, List.nil_append, List.replicate, List.length_cons, List.length_nil, o_add, o_sub, o_lt, o_le, o_gt, o_ge, o_les, o_eq, o_ne, o_eqs, o_nes, o_eqb, o_neb, o_is, o_isNot, o_iadd, o_neg, b_int, b_min, b_max, i1, i2, he k _ _ e1 e2, truD, Bool.not_true, Bool.false_eq_true, if_false]
    exact ⟨_, rfl, trivial⟩
  · rintro e G' ⟨y, rfl, rfl⟩
    exact ⟨trivial, rfl⟩
theorem same_row (n : Nat) (r : Rw5) (G : Gh) : m_law_same (n + 2) [rwD r, rwD r] G = .ok (.bl true) G := by
  unfold rwD
  refine same_tup (n + 1) [.int r.1, .int r.2.1, .int r.2.2.1, .int r.2.2.2.1, .int r.2.2.2.2] [.int r.1, .int r.2.1, .int r.2.2.1, .int r.2.2.2.1, .int r.2.2.2.2] G rfl (Nat.le_trans (show 5 ≤ 10 by omega) (by omega)) fun k x y h1 h2 => ?_
  have hxy : x = y := Option.some.inj (h1.symm.trans h2)
  subst hxy
  have hm := List.mem_of_getElem? h1
  simp only [List.mem_cons, List.not_mem_nil, or_false] at hm
  rcases hm with q | q | q | q | q <;> rw [q] <;> exact same_int n _ G
theorem same_res (n : Nat) (o b : Int) (rs : List Rw5) (p p' : Nat) (G : Gh) (h1 : G.ob p = .lst (rs.map rwD)) (h2 : G.ob p' = .lst (rs.map rwD)) (hz : rs.length ≤ 1000000) : m_law_same (n + 4) [.tup [.int o, .ref p, .int b], .tup [.int o, .ref p', .int b]] G = .ok (.bl true) G := by
  have hl : m_law_same (n + 3) [.ref p, .ref p'] G = .ok (.bl true) G := same_lst (n + 2) (rs.map rwD) (rs.map rwD) p p' G h1 h2 rfl (by rw [List.length_map]; exact hz) fun k x y e1 e2 => by
    have hxy : x = y := Option.some.inj (e1.symm.trans e2)
    subst hxy
    rw [List.getElem?_map] at e1
    obtain ⟨r, _, q⟩ := Option.map_eq_some_iff.mp e1
    rw [← q]
    exact same_row n r G
  refine same_tup (n + 3) [.int o, .ref p, .int b] [.int o, .ref p', .int b] G rfl (Nat.le_trans (show 3 ≤ 10 by omega) (by omega)) fun k x y e1 e2 => ?_
  rcases k with _ | _ | _ | k
  · simp only [List.getElem?_cons_zero, Option.some.injEq] at e1 e2
    subst e1; subst e2; exact same_int (n + 2) o G
  · simp only [List.getElem?_cons_zero, List.getElem?_cons_succ, Nat.zero_add, Option.some.injEq] at e1 e2
    subst e1; subst e2; exact hl
  · simp only [List.getElem?_cons_zero, List.getElem?_cons_succ, Nat.zero_add, Option.some.injEq] at e1 e2
    subst e1; subst e2; exact same_int (n + 2) b G
  · simp at e1
end Lw
namespace Lw
open PySem PySem.Spec PyProof.Rows L2 Mi
def Sort5 (s : Str) : Prop := s = "asset" ∨ s = "debt" ∨ s = "equity" ∨ s = "income" ∨ s = "cost"
theorem sort_in {s : Str} (h : Sort5 s) (G : Gh) : opNotIn (.str s) c_SORTS G = some (.bl false, G) := by
  rcases h with rfl | rfl | rfl | rfl | rfl <;> rfl
section
variable {G : Gh} {L a l e r : Nat} {ids : List Nat} {lns : List (List Ln)} {es : List (Int × List D)}
theorem open_ok (h : Led G L a l e r ids lns es) {s : Str} (hs : Sort5 s) (hn : lns.length < 200) :
    ∃ (k : Int) (G' : Gh) (id : Nat), m_Ledger_open_account [.ref L, .str "EUR", .str s] G = .ok (.int k) G' ∧ Led G' L a l e r (ids ++ [id]) (lns ++ [[]]) es ∧ FrX (foot L a l e r ids) G G' ∧ G.n ≤ id := by
  obtain ⟨acc, h1, h2⟩ := h.oa
  have nd := h.nd
  simp only [List.cons_append, List.nil_append, List.nodup_cons, List.mem_cons, not_or] at nd
  obtain ⟨⟨d1, d2, d3, d4, d5⟩, ⟨d6, d7, d8, d9⟩, ⟨d10, d11, d12⟩, ⟨d13, d14⟩, d15, d16⟩ := nd
  have la : a < G.n := h.lt a (by simp)
  have lL : L < G.n := h.lt L (by simp)
  have le : e < G.n := h.lt e (by simp)
  have lr : r < G.n := h.lt r (by simp)
  have ll : l < G.n := h.bn.lt l List.mem_cons_self
  have key : (m_Ledger_open_account [.ref L, .str "EUR", .str s] G).sat (fun d G' => ∃ (k : Int) (id : Nat), d = .int k ∧ Led G' L a l e r (ids ++ [id]) (lns ++ [[]]) es ∧ FrX (foot L a l e r ids) G G' ∧ G.n ≤ id) nE := by
    unfold m_Ledger_open_account b_Ledger_open_account
    rw [w_fun]
    refine ⟨rfl, ?_⟩
    rw [q_Ledger_open_account_1, w_seq]; simp only [w_ok, w_c, w_v, w_op, w_un, w_b, w_nil, w_cons, w_call, w_tup, w_lst, w_dct0, w_fld, w_meth, w_make, w_mt, w_get2, w_tru, w_asB, w_not, w_and, w_or, w_chain, w_andV, w_orV, w_notV, w_if, w_isi, w_pNone, w_pSome, w_sl, w_nx, w_brk, w_cnt, w_drop, w_ret, w_retN, w_sif, w_raise, gmN, gmT, gmAll, w_asg, w_sfld, w_ssub, w_saug, w_for, w_iseq, w_irng1, w_irng2, slotQ_some, opQ_some, opD_some, getQ_some, opB_some, blQ_bl, tyQ_some, inQ_int, evQ_some, ghQ_some, List.getElem?_cons_zero, List.getElem?_cons_succ, List.set_cons_zero, List.set_cons_succ, List.map_cons, List.map_nil, List.cons_append, List.nil_append, List.replicate, List.length_cons, List.length_nil, o_add, o_sub, o_lt, o_le, o_gt, o_ge, o_les, o_eq, o_ne, o_eqs, o_nes, o_eqb, o_neb, o_is, o_isNot, o_iadd, o_neg, b_int, b_min, b_max, currency_eur]
    rw [q_Ledger_open_account_2, w_seq]; simp only [w_ok, w_c, w_v, w_op, w_un, w_b, w_nil, w_cons, w_call, w_tup, w_lst, w_dct0, w_fld, w_meth, w_make, w_mt, w_get2, w_tru, w_asB, w_not, w_and, w_or, w_chain, w_andV, w_orV, w_notV, w_if, w_isi, w_pNone, w_pSome, w_sl, w_nx, w_brk, w_cnt, w_drop, w_ret, w_retN, w_sif, w_raise, gmN, gmT, gmAll, w_asg, w_sfld, w_ssub, w_saug, w_for, w_iseq, w_irng1, w_irng2, slotQ_some, opQ_some, opD_some, getQ_some, opB_some, blQ_bl, tyQ_some, inQ_int, evQ_some, ghQ_some, List.getElem?_cons_zero, List.getElem?_cons_succ, List.set_cons_zero, List.set_cons_succ, List.map_cons, List.map_nil, List.cons_append, List.nil_append, List.replicate, List.length_cons, List.length_nil, o_add, o_sub, o_lt, o_le, o_gt, o_ge, o_les, o_eq, o_ne, o_eqs, o_nes, o_eqb, o_neb, o_is, o_isNot, o_iadd, o_neg, b_int, b_min, b_max, sort_in hs, Bool.false_eq_true, if_false]
    have hlen : lenD (.ref a) G = some acc.length := (len_lst h2).trans (by rw [List.length_map])
    have hb : decide ((200 : Int) ≤ (acc.length : Int)) = false := by rw [decide_eq_false_iff_not]; omega
    rw [q_Ledger_open_account_3, w_seq]; simp only [w_ok, w_c, w_v, w_op, w_un, w_b, w_nil, w_cons, w_call, w_tup, w_lst, w_dct0, w_fld, w_meth, w_make, w_mt, w_get2, w_tru, w_asB, w_not, w_and, w_or, w_chain, w_andV, w_orV, w_notV, w_if, w_isi, w_pNone, w_pSome, w_sl, w_nx, w_brk, w_cnt, w_drop, w_ret, w_retN, w_sif, w_raise, gmN, gmT, gmAll, w_asg, w_sfld, w_ssub, w_saug, w_for, w_iseq, w_irng1, w_irng2, slotQ_some, opQ_some, opD_some, getQ_some, opB_some, blQ_bl, tyQ_some, inQ_int, evQ_some, ghQ_some, List.getElem?_cons_zero, List.getElem?_cons_succ, List.set_cons_zero, List.set_cons_succ, List.map_cons, List.map_nil, List.cons_append, List.nil_append, List.replicate, List.length_cons, List.length_nil, o_add, o_sub, o_lt, o_le, o_gt, o_ge, o_les, o_eq, o_ne, o_eqs, o_nes, o_eqb, o_neb, o_is, o_isNot, o_iadd, o_neg, b_int, b_min, b_max, h.f13, b_len hlen, hb, Bool.false_eq_true, if_false]
    have ap := m_append (y := .tup [.str "EUR", .str s]) h2 (sz2 (by rw [List.length_map]; omega))
    rw [q_Ledger_open_account_4, w_seq]; simp only [w_ok, w_c, w_v, w_op, w_un, w_b, w_nil, w_cons, w_call, w_tup, w_lst, w_dct0, w_fld, w_meth, w_make, w_mt, w_get2, w_tru, w_asB, w_not, w_and, w_or, w_chain, w_andV, w_orV, w_notV, w_if, w_isi, w_pNone, w_pSome, w_sl, w_nx, w_brk, w_cnt, w_drop, w_ret, w_retN, w_sif, w_raise, gmN, gmT, gmAll, w_asg, w_sfld, w_ssub, w_saug, w_for, w_iseq, w_irng1, w_irng2, slotQ_some, opQ_some, opD_some, getQ_some, opB_some, blQ_bl, tyQ_some, inQ_int, evQ_some, ghQ_some, List.getElem?_cons_zero, List.getElem?_cons_succ, List.set_cons_zero, List.set_cons_succ, List.map_cons, List.map_nil, List.cons_append, List.nil_append, List.replicate, List.length_cons, List.length_nil, o_add, o_sub, o_lt, o_le, o_gt, o_ge, o_les, o_eq, o_ne, o_eqs, o_nes, o_eqb, o_neb, o_is, o_isNot, o_iadd, o_neg, b_int, b_min, b_max, h.f13, isLst_of h2, true_and, ap]
    refine ⟨by decide, ?_⟩
    generalize hG1 : G.set a (.lst (acc.map (fun s => D.tup [.str "EUR", .str s]) ++ [.tup [.str "EUR", .str s]])) = G1
    have n1 : G1.n = G.n := by rw [← hG1]; rfl
    have hk1 : ∀ j, j ≠ a → G1.ob j = G.ob j := fun j hj => by rw [← hG1]; exact ob_set_ne G _ hj
    have ha1 : G1.ob a = .lst ((acc ++ [s]).map fun s => .tup [.str "EUR", .str s]) := by rw [← hG1, ob_set_same, List.map_append]; rfl
    have hL1 : G1.ob L = .ins 10 [(13, .ref a), (14, .ref l), (15, .ref e), (16, .ref r)] := (hk1 L d1).trans h.ob
    have b1 : Bn G1 l ids lns := h.bn.frame (by rw [n1]; exact Nat.le_refl _) fun j hj => hk1 j fun z => by
      subst z
      rcases List.mem_cons.mp hj with z | z
      · exact d8 z
      · exact d9 z
    have f14 : fldO na 14 (.ref L) G1 = some (.ref l) := fld_of hL1 rfl rfl
    have f13 : ∀ G2 : Gh, G2.ob L = G1.ob L → fldO na 13 (.ref L) G2 = some (.ref a) := fun G2 e => fld_of (e.trans hL1) rfl rfl
    have ol : (G1.push (.lst [])).ob l = .lst (ids.map .ref) := by rw [ob_push_ne _ _ (by omega)]; exact b1.oh
    have ap2 := m_append (y := .ref G1.n) ol (sz2 (by rw [List.length_map, b1.len]; omega))
    rw [q_Ledger_open_account_5, w_seq]; simp only [w_ok, w_c, w_v, w_op, w_un, w_b, w_nil, w_cons, w_call, w_tup, w_lst, w_dct0, w_fld, w_meth, w_make, w_mt, w_get2, w_tru, w_asB, w_not, w_and, w_or, w_chain, w_andV, w_orV, w_notV, w_if, w_isi, w_pNone, w_pSome, w_sl, w_nx, w_brk, w_cnt, w_drop, w_ret, w_retN, w_sif, w_raise, gmN, gmT, gmAll, w_asg, w_sfld, w_ssub, w_saug, w_for, w_iseq, w_irng1, w_irng2, slotQ_some, opQ_some, opD_some, getQ_some, opB_some, blQ_bl, tyQ_some, inQ_int, evQ_some, ghQ_some, List.getElem?_cons_zero, List.getElem?_cons_succ, List.set_cons_zero, List.set_cons_succ, List.map_cons, List.map_nil, List.cons_append, List.nil_append, List.replicate, List.length_cons, List.length_nil, o_add, o_sub, o_lt, o_le, o_gt, o_ge, o_les, o_eq, o_ne, o_eqs, o_nes, o_eqb, o_neb, o_is, o_isNot, o_iadd, o_neg, b_int, b_min, b_max, f14, isLst_of b1.oh, true_and, ap2, Nat.zero_le]
    generalize hG2 : (G1.push (.lst [])).set l (.lst (ids.map .ref ++ [.ref G1.n])) = G2
    have b2 : Bn G2 l (ids ++ [G1.n]) (lns ++ [[]]) := by rw [← hG2]; exact b1.push
    have hk2 : ∀ j, j < G.n → j ≠ l → G2.ob j = G1.ob j := fun j hj hn => by rw [← hG2, ob_set_ne _ _ hn, ob_push_ne _ _ (by omega)]
    have n2 : G2.n = G.n + 1 := by rw [← hG2, n_set, n_push, n1]
    have ha2 : G2.ob a = .lst ((acc ++ [s]).map fun s => .tup [.str "EUR", .str s]) := (hk2 a la d8).trans ha1
    have hlen2 : lenD (.ref a) G2 = some ((acc ++ [s]).length) := (len_lst ha2).trans (by rw [List.length_map])
    simp only [f13 G2 (hk2 L lL d4), b_len hlen2, w_ok, w_c, w_v, w_op, w_un, w_b, w_nil, w_cons, w_call, w_tup, w_lst, w_dct0, w_fld, w_meth, w_make, w_mt, w_get2, w_tru, w_asB, w_not, w_and, w_or, w_chain, w_andV, w_orV, w_notV, w_if, w_isi, w_pNone, w_pSome, w_sl, w_nx, w_brk, w_cnt, w_drop, w_ret, w_retN, w_sif, w_raise, gmN, gmT, gmAll, w_asg, w_sfld, w_ssub, w_saug, w_for, w_iseq, w_irng1, w_irng2, slotQ_some, opQ_some, opD_some, getQ_some, opB_some, blQ_bl, tyQ_some, inQ_int, evQ_some, ghQ_some, List.getElem?_cons_zero, List.getElem?_cons_succ, List.set_cons_zero, List.set_cons_succ, List.map_cons, List.map_nil, List.cons_append, List.nil_append, List.replicate, List.length_cons, List.length_nil, o_add, o_sub, o_lt, o_le, o_gt, o_ge, o_les, o_eq, o_ne, o_eqs, o_nes, o_eqb, o_neb, o_is, o_isNot, o_iadd, o_neg, b_int, b_min, b_max]
    refine ⟨_, G1.n, rfl, ?_, ?_, by omega⟩
    · refine ⟨(hk2 L lL d4).trans hL1, ⟨acc ++ [s], by simp [h1], ha2⟩, b2, ((hk2 e le d11).trans (hk1 e (fun z => d6 z.symm))).trans h.oe, ?_, fun j hj => by have := h.lt j hj; omega⟩
      have n0 : ∀ j ∈ foot L a l e r ids, j ≠ G1.n := fun j hj => by have := h.lt' j hj; omega
      have e0 : [L, a, e, r] ++ (l :: (ids ++ [G1.n])) = ([L, a, e, r] ++ (l :: ids)) ++ [G1.n] := by simp
      rw [e0, List.nodup_append]
      exact ⟨h.nd, by simp, fun x hx y hy => by rw [show y = G1.n by simpa using hy]; exact n0 x hx⟩
    · refine ⟨by omega, fun j hj hn => ?_⟩
      have hjl : j ≠ l := fun z => hn (z ▸ by simp [foot])
      have hja : j ≠ a := fun z => hn (z ▸ by simp [foot])
      exact (hk2 j hj hjl).trans (hk1 j hja)
  obtain ⟨d, G', e1, k, id, rfl, g1, g2, g3⟩ := Rs.ok_of key
  exact ⟨k, G', id, e1, g1, g2, g3⟩
end
/-- a new ledger -/
theorem init_ok (G : Gh) : m_Ledger_init [.ref G.n] (G.push (.ins 10 [])) = .ok .non (((((((((G.push (.ins 10 [])).push (.lst [])).set G.n (.ins 10 [(13, .ref (G.n + 1))])).push (.lst [])).set G.n (.ins 10 [(13, .ref (G.n + 1)), (14, .ref (G.n + 2))])).push (.lst [])).set G.n (.ins 10 [(13, .ref (G.n + 1)), (14, .ref (G.n + 2)), (15, .ref (G.n + 3))])).push (.dct [])).set G.n (.ins 10 [(13, .ref (G.n + 1)), (14, .ref (G.n + 2)), (15, .ref (G.n + 3)), (16, .ref (G.n + 4))])) := by
  apply eq_of_sat
  unfold m_Ledger_init b_Ledger_init
  rw [w_fun]
  refine ⟨rfl, ?_⟩
  have s1 := setFld_ok (na := na) (f := 13) (d := .ref (G.n + 1)) (G := (G.push (.ins 10 [])).push (.lst [])) (l := G.n) (c := 10) (fs := []) (by rw [ob_push_ne _ _ (by rw [n_push]; omega), ob_push_same]) rfl (by decide)
  rw [q_Ledger_init_1, w_seq]; simp only [w_ok, w_c, w_v, w_op, w_un, w_b, w_nil, w_cons, w_call, w_tup, w_lst, w_dct0, w_fld, w_meth, w_make, w_mt, w_get2, w_tru, w_asB, w_not, w_and, w_or, w_chain, w_andV, w_orV, w_notV, w_if, w_isi, w_pNone, w_pSome, w_sl, w_nx, w_brk, w_cnt, w_drop, w_ret, w_retN, w_sif, w_raise, gmN, gmT, gmAll, w_asg, w_sfld, w_ssub, w_saug, w_for, w_iseq, w_irng1, w_irng2, slotQ_some, opQ_some, opD_some, getQ_some, opB_some, blQ_bl, tyQ_some, inQ_int, evQ_some, ghQ_some, List.getElem?_cons_zero, List.getElem?_cons_succ, List.set_cons_zero, List.set_cons_succ, List.map_cons, List.map_nil, List.cons_append, List.nil_append, List.replicate, List.length_cons, List.length_nil, o_add, o_sub, o_lt, o_le, o_gt, o_ge, o_les, o_eq, o_ne, o_eqs, o_nes, o_eqb, o_neb, o_is, o_isNot, o_iadd, o_neg, b_int, b_min, b_max, n_push, s1]
  refine ⟨Nat.zero_le _, ?_⟩
  generalize hG1 : ((G.push (.ins 10 [])).push (.lst [])).set G.n (.ins 10 (putD [] 13 (.ref (G.n + 1)))) = G1
  have n1 : G1.n = G.n + 2 := by rw [← hG1]; rfl
  have o1 : G1.ob G.n = .ins 10 [(13, .ref (G.n + 1))] := by rw [← hG1, ob_set_same]; rfl
  have s2 := setFld_ok (na := na) (f := 14) (d := .ref (G.n + 2)) (G := G1.push (.lst [])) (l := G.n) (c := 10) (by rw [ob_push_ne _ _ (by omega)]; exact o1) rfl (by show 1 < 1000; decide)
  rw [q_Ledger_init_2, w_seq]; simp only [w_ok, w_c, w_v, w_op, w_un, w_b, w_nil, w_cons, w_call, w_tup, w_lst, w_dct0, w_fld, w_meth, w_make, w_mt, w_get2, w_tru, w_asB, w_not, w_and, w_or, w_chain, w_andV, w_orV, w_notV, w_if, w_isi, w_pNone, w_pSome, w_sl, w_nx, w_brk, w_cnt, w_drop, w_ret, w_retN, w_sif, w_raise, gmN, gmT, gmAll, w_asg, w_sfld, w_ssub, w_saug, w_for, w_iseq, w_irng1, w_irng2, slotQ_some, opQ_some, opD_some, getQ_some, opB_some, blQ_bl, tyQ_some, inQ_int, evQ_some, ghQ_some, List.getElem?_cons_zero, List.getElem?_cons_succ, List.set_cons_zero, List.set_cons_succ, List.map_cons, List.map_nil, List.cons_append, List.nil_append, List.replicate, List.length_cons, List.length_nil, o_add, o_sub, o_lt, o_le, o_gt, o_ge, o_les, o_eq, o_ne, o_eqs, o_nes, o_eqb, o_neb, o_is, o_isNot, o_iadd, o_neg, b_int, b_min, b_max, n1, s2]
  refine ⟨Nat.zero_le _, ?_⟩
  generalize hG2 : (G1.push (.lst [])).set G.n (.ins 10 (putD [(13, .ref (G.n + 1))] 14 (.ref (G.n + 2)))) = G2
  have n2 : G2.n = G.n + 3 := by rw [← hG2, n_set, n_push, n1]
  have o2 : G2.ob G.n = .ins 10 [(13, .ref (G.n + 1)), (14, .ref (G.n + 2))] := by rw [← hG2, ob_set_same]; rfl
  have s3 := setFld_ok (na := na) (f := 15) (d := .ref (G.n + 3)) (G := G2.push (.lst [])) (l := G.n) (c := 10) (by rw [ob_push_ne _ _ (by omega)]; exact o2) rfl (by show 2 < 1000; decide)
  rw [q_Ledger_init_3, w_seq]; simp only [w_ok, w_c, w_v, w_op, w_un, w_b, w_nil, w_cons, w_call, w_tup, w_lst, w_dct0, w_fld, w_meth, w_make, w_mt, w_get2, w_tru, w_asB, w_not, w_and, w_or, w_chain, w_andV, w_orV, w_notV, w_if, w_isi, w_pNone, w_pSome, w_sl, w_nx, w_brk, w_cnt, w_drop, w_ret, w_retN, w_sif, w_raise, gmN, gmT, gmAll, w_asg, w_sfld, w_ssub, w_saug, w_for, w_iseq, w_irng1, w_irng2, slotQ_some, opQ_some, opD_some, getQ_some, opB_some, blQ_bl, tyQ_some, inQ_int, evQ_some, ghQ_some, List.getElem?_cons_zero, List.getElem?_cons_succ, List.set_cons_zero, List.set_cons_succ, List.map_cons, List.map_nil, List.cons_append, List.nil_append, List.replicate, List.length_cons, List.length_nil, o_add, o_sub, o_lt, o_le, o_gt, o_ge, o_les, o_eq, o_ne, o_eqs, o_nes, o_eqb, o_neb, o_is, o_isNot, o_iadd, o_neg, b_int, b_min, b_max, n2, s3]
  refine ⟨Nat.zero_le _, ?_⟩
  generalize hG3 : (G2.push (.lst [])).set G.n (.ins 10 (putD [(13, .ref (G.n + 1)), (14, .ref (G.n + 2))] 15 (.ref (G.n + 3)))) = G3
  have n3 : G3.n = G.n + 4 := by rw [← hG3, n_set, n_push, n2]
  have o3 : G3.ob G.n = .ins 10 [(13, .ref (G.n + 1)), (14, .ref (G.n + 2)), (15, .ref (G.n + 3))] := by rw [← hG3, ob_set_same]; rfl
  have s4 := setFld_ok (na := na) (f := 16) (d := .ref (G.n + 4)) (G := G3.push (.dct [])) (l := G.n) (c := 10) (by rw [ob_push_ne _ _ (by omega)]; exact o3) rfl (by show 3 < 1000; decide)
  simp only [w_ok, w_c, w_v, w_op, w_un, w_b, w_nil, w_cons, w_call, w_tup, w_lst, w_dct0, w_fld, w_meth, w_make, w_mt, w_get2, w_tru, w_asB, w_not, w_and, w_or, w_chain, w_andV, w_orV, w_notV, w_if, w_isi, w_pNone, w_pSome, w_sl, w_nx, w_brk, w_cnt, w_drop, w_ret, w_retN, w_sif, w_raise, gmN, gmT, gmAll, w_asg, w_sfld, w_ssub, w_saug, w_for, w_iseq, w_irng1, w_irng2, slotQ_some, opQ_some, opD_some, getQ_some, opB_some, blQ_bl, tyQ_some, inQ_int, evQ_some, ghQ_some, List.getElem?_cons_zero, List.getElem?_cons_succ, List.set_cons_zero, List.set_cons_succ, List.map_cons, List.map_nil, List.cons_append, List.nil_append, List.replicate, List.length_cons, List.length_nil, o_add, o_sub, o_lt, o_le, o_gt, o_ge, o_les, o_eq, o_ne, o_eqs, o_nes, o_eqb, o_neb, o_is, o_isNot, o_iadd, o_neg, b_int, b_min, b_max, n3, s4]
  refine ⟨trivial, ?_⟩
  rw [← hG3, ← hG2, ← hG1]
  rfl
theorem init_led (G : Gh) : ∃ G', m_Ledger_init [.ref G.n] (G.push (.ins 10 [])) = .ok .non G' ∧ Led G' G.n (G.n + 1) (G.n + 2) (G.n + 3) (G.n + 4) [] [] [] ∧ Fr G G' ∧ G'.n = G.n + 5 := by
  refine ⟨_, init_ok G, ⟨ob_set_same _ _ _, ⟨[], rfl, ?_⟩, ⟨?_, rfl, fun i id e => by simp at e, by simp, fun j hj => ?_⟩, ?_, ?_, fun j hj => ?_⟩, ?_, rfl⟩
  · simp [ob_set, ob_push, n_set, n_push]
  · simp [ob_set, ob_push, n_set, n_push]
  · have : j = G.n + 2 := by simpa using hj
    simp only [n_set, n_push]; omega
  · simp [ob_set, ob_push, n_set, n_push]
  · simp
  · simp at hj
    simp only [n_set, n_push]; omega
  · refine ⟨by simp only [n_set, n_push]; omega, fun j hj => ?_⟩
    simp only [ob_set, ob_push, n_set, n_push]
    have z : ∀ k, G.n ≤ k → ¬ j = k := fun k h => by omega
    simp [z _ (Nat.le_refl _), z (G.n + 1) (by omega), z (G.n + 1 + 1) (by omega), z (G.n + 1 + 1 + 1) (by omega), z (G.n + 1 + 1 + 1 + 1) (by omega)]
end Lw
namespace Lw
open PySem PySem.Spec PyProof.Rows L2 Mi
structure Wd (b0 : Nat) (G : Gh) (L a l e r M : Nat) (ids mids : List Nat) (lns : List (List Ln)) (es : List (Int × List D)) : Prop where
  led : Led G L a l e r ids lns es
  bn : Bn G M mids lns
  dj : ∀ j ∈ M :: mids, j ∉ foot L a l e r ids
  lo : ∀ j ∈ foot L a l e r ids, b0 ≤ j
  lo2 : ∀ j ∈ M :: mids, b0 ≤ j
section
variable {b0 : Nat} {G G' : Gh} {L a l e r M : Nat} {ids mids : List Nat} {lns : List (List Ln)} {es : List (Int × List D)}
theorem Wd.fr (h : Wd b0 G L a l e r M ids mids lns es) (f : Fr G G') : Wd b0 G' L a l e r M ids mids lns es := ⟨h.led.fr f, h.bn.fr f, h.dj, h.lo, h.lo2⟩
def rv (row : List Int) (k : Int) : Int := row.getD k.toNat 0
theorem row_ix {R : Nat} {row : List Int} (h : G.ob R = .lst (row.map D.int)) (k : Int) (hk : 0 ≤ k ∧ k < row.length) : opIx (.ref R) (.int k) G = some (.int (rv row k), G) := by
  have z := atI_nat (xs := row.map D.int) (k := k.toNat) (by rw [List.length_map]; omega)
  rw [show ((k.toNat : Nat) : Int) = k by omega] at z
  refine ix_lst h ?_
  rw [z, List.getElem_map]
  unfold rv
  rw [List.getD_eq_getElem?_getD, List.getElem?_eq_getElem (show k.toNat < row.length by omega)]
  rfl
theorem books_ok {R : Nat} {row : List Int} (hR : G.ob R = .lst (row.map D.int)) (hRn : R < G.n) (hlen : row.length = 4) :
    ∃ L a l e r M ids mids n G', m_law_books [.ref R] G = .ok (.tup [.ref L, .ref M]) G' ∧ Wd G.n G' L a l e r M ids mids (List.replicate n []) [] ∧ 2 ≤ n ∧ n ≤ 5 ∧ Fr G G' := by
  obtain ⟨G1, e1, hl1, f1, n1⟩ := init_led G
  have key : (m_law_books [.ref R] G).sat (fun d G' => ∃ L a l e r M ids mids n, d = .tup [.ref L, .ref M] ∧ Wd G.n G' L a l e r M ids mids (List.replicate n []) [] ∧ 2 ≤ n ∧ n ≤ 5 ∧ Fr G G') nE := by
    unfold m_law_books b_law_books
    rw [w_fun]
    refine ⟨rfl, ?_⟩
    rw [q_law_books_2, w_seq]; simp only [w_ok, w_c, w_v, w_op, w_un, w_b, w_nil, w_cons, w_call, w_tup, w_lst, w_dct0, w_fld, w_meth, w_make, w_mt, w_get2, w_tru, w_asB, w_not, w_and, w_or, w_chain, w_andV, w_orV, w_notV, w_if, w_isi, w_pNone, w_pSome, w_sl, w_nx, w_brk, w_cnt, w_drop, w_ret, w_retN, w_sif, w_raise, gmN, gmT, gmAll, w_asg, w_sfld, w_ssub, w_saug, w_for, w_iseq, w_irng1, w_irng2, slotQ_some, opQ_some, opD_some, getQ_some, opB_some, blQ_bl, tyQ_some, inQ_int, evQ_some, ghQ_some, List.getElem?_cons_zero, List.getElem?_cons_succ, List.set_cons_zero, List.set_cons_succ, List.map_cons, List.map_nil, List.cons_append, List.nil_append, List.replicate, List.length_cons, List.length_nil, o_add, o_sub, o_lt, o_le, o_gt, o_ge, o_les, o_eq, o_ne, o_eqs, o_nes, o_eqb, o_neb, o_is, o_isNot, o_iadd, o_neg, b_int, b_min, b_max, w_make, e1]
    refine ⟨trivial, ?_⟩
    have hR1 : G1.ob R = .lst (row.map D.int) := (f1.2 R hRn).trans hR
    have i0 := row_ix hR1 0 (by omega)
    rw [q_law_books_3, w_seq]; simp only [w_ok, w_c, w_v, w_op, w_un, w_b, w_nil, w_cons, w_call, w_tup, w_lst, w_dct0, w_fld, w_meth, w_make, w_mt, w_get2, w_tru, w_asB, w_not, w_and, w_or, w_chain, w_andV, w_orV, w_notV, w_if, w_isi, w_pNone, w_pSome, w_sl, w_nx, w_brk, w_cnt, w_drop, w_ret, w_retN, w_sif, w_raise, gmN, gmT, gmAll, w_asg, w_sfld, w_ssub, w_saug, w_for, w_iseq, w_irng1, w_irng2, slotQ_some, opQ_some, opD_some, getQ_some, opB_some, blQ_bl, tyQ_some, inQ_int, evQ_some, ghQ_some, List.getElem?_cons_zero, List.getElem?_cons_succ, List.set_cons_zero, List.set_cons_succ, List.map_cons, List.map_nil, List.cons_append, List.nil_append, List.replicate, List.length_cons, List.length_nil, o_add, o_sub, o_lt, o_le, o_gt, o_ge, o_les, o_eq, o_ne, o_eqs, o_nes, o_eqb, o_neb, o_is, o_isNot, o_iadd, o_neg, b_int, b_min, b_max, i0, o_mod (show (0 : Int) < 4 by decide)]
    have hc : ∃ n : Nat, (2 : Int) + rv row 0 % 4 = (n : Int) ∧ 2 ≤ n ∧ n ≤ 5 := ⟨((2 : Int) + rv row 0 % 4).toNat, by omega, by omega, by omega⟩
    obtain ⟨n, en, hn1, hn2⟩ := hc
    rw [en]
    rw [q_law_books_4, w_seq]; simp only [w_ok, w_c, w_v, w_op, w_un, w_b, w_nil, w_cons, w_call, w_tup, w_lst, w_dct0, w_fld, w_meth, w_make, w_mt, w_get2, w_tru, w_asB, w_not, w_and, w_or, w_chain, w_andV, w_orV, w_notV, w_if, w_isi, w_pNone, w_pSome, w_sl, w_nx, w_brk, w_cnt, w_drop, w_ret, w_retN, w_sif, w_raise, gmN, gmT, gmAll, w_asg, w_sfld, w_ssub, w_saug, w_for, w_iseq, w_irng1, w_irng2, slotQ_some, opQ_some, opD_some, getQ_some, opB_some, blQ_bl, tyQ_some, inQ_int, evQ_some, ghQ_some, List.getElem?_cons_zero, List.getElem?_cons_succ, List.set_cons_zero, List.set_cons_succ, List.map_cons, List.map_nil, List.cons_append, List.nil_append, List.replicate, List.length_cons, List.length_nil, o_add, o_sub, o_lt, o_le, o_gt, o_ge, o_les, o_eq, o_ne, o_eqs, o_nes, o_eqb, o_neb, o_is, o_isNot, o_iadd, o_neg, b_int, b_min, b_max]
    refine ⟨Nat.zero_le _, ?_⟩
    rw [n1]
    rw [q_law_books_5, w_seq]; simp only [w_ok, w_c, w_v, w_op, w_un, w_b, w_nil, w_cons, w_call, w_tup, w_lst, w_dct0, w_fld, w_meth, w_make, w_mt, w_get2, w_tru, w_asB, w_not, w_and, w_or, w_chain, w_andV, w_orV, w_notV, w_if, w_isi, w_pNone, w_pSome, w_sl, w_nx, w_brk, w_cnt, w_drop, w_ret, w_retN, w_sif, w_raise, gmN, gmT, gmAll, w_asg, w_sfld, w_ssub, w_saug, w_for, w_iseq, w_irng1, w_irng2, slotQ_some, opQ_some, opD_some, getQ_some, opB_some, blQ_bl, tyQ_some, inQ_int, evQ_some, ghQ_some, List.getElem?_cons_zero, List.getElem?_cons_succ, List.set_cons_zero, List.set_cons_succ, List.map_cons, List.map_nil, List.cons_append, List.nil_append, List.replicate, List.length_cons, List.length_nil, o_add, o_sub, o_lt, o_le, o_gt, o_ge, o_les, o_eq, o_ne, o_eqs, o_nes, o_eqb, o_neb, o_is, o_isNot, o_iadd, o_neg, b_int, b_min, b_max, rng1]
    refine rng_sat (i := 0) (j := n) ⟨by omega⟩ (fun k e0 G2 => ∃ (ids mids : List Nat) (y : Option D), e0 = [some (.ref R), some (.ref G.n), some (.int n), some (.ref (G.n + 5)), y] ∧ Wd G.n G2 G.n (G.n + 1) (G.n + 2) (G.n + 3) (G.n + 4) (G.n + 5) ids mids (List.replicate k []) [] ∧ Fr G G2)
      ⟨[], [], none, rfl, ⟨hl1.fr (Fr.push _ _), ⟨by rw [← n1]; exact ob_push_same _ _, rfl, fun i id e => by simp at e, by simp, fun j hj => by rw [show j = G.n + 5 by simpa using hj, n_push, n1]; omega⟩, fun j hj => ?_, fun j hj => ?_, fun j hj => ?_⟩, f1.trans (Fr.push _ _)⟩ ?_ ?_
    · rw [show j = G.n + 5 by simpa using hj]; simp [foot]
    · simp [foot] at hj; omega
    · rw [show j = G.n + 5 by simpa using hj]; omega
    · rintro k e0 G2 hk ⟨ids, mids, y, rfl, W, F⟩
      have hk2 : k < n := by omega
      have hR2 : G2.ob R = .lst (row.map D.int) := (F.2 R hRn).trans hR
      have i1 := row_ix hR2 1 (by omega)
      have hx : ∃ s, Sort5 s ∧ opIx (.tup [.str "asset", .str "debt", .str "equity", .str "income", .str "cost"]) (.int ((rv row 1 + k) % 5)) G2 = some (.str s, G2) := by
        have h5 : (rv row 1 + (k : Int)) % 5 = 0 ∨ (rv row 1 + (k : Int)) % 5 = 1 ∨ (rv row 1 + (k : Int)) % 5 = 2 ∨ (rv row 1 + (k : Int)) % 5 = 3 ∨ (rv row 1 + (k : Int)) % 5 = 4 := by omega
        rcases h5 with h | h | h | h | h
        · exact ⟨"asset", .inl rfl, by rw [h]; exact ix_tup rfl⟩
        · exact ⟨"debt", .inr (.inl rfl), by rw [h]; exact ix_tup rfl⟩
        · exact ⟨"equity", .inr (.inr (.inl rfl)), by rw [h]; exact ix_tup rfl⟩
        · exact ⟨"income", .inr (.inr (.inr (.inl rfl))), by rw [h]; exact ix_tup rfl⟩
        · exact ⟨"cost", .inr (.inr (.inr (.inr rfl))), by rw [h]; exact ix_tup rfl⟩
      obtain ⟨s, hs, ixs⟩ := hx
      obtain ⟨kk, G3, id, eo, hl3, fx, hid⟩ := open_ok W.led hs (by rw [List.length_replicate]; omega)
      simp only [w_ok, w_c, w_v, w_op, w_un, w_b, w_nil, w_cons, w_call, w_tup, w_lst, w_dct0, w_fld, w_meth, w_make, w_mt, w_get2, w_tru, w_asB, w_not, w_and, w_or, w_chain, w_andV, w_orV, w_notV, w_if, w_isi, w_pNone, w_pSome, w_sl, w_nx, w_brk, w_cnt, w_drop, w_ret, w_retN, w_sif, w_raise, gmN, gmT, gmAll, w_asg, w_sfld, w_ssub, w_saug, w_for, w_iseq, w_irng1, w_irng2, slotQ_some, opQ_some, opD_some, getQ_some, opB_some, blQ_bl, tyQ_some, inQ_int, evQ_some, ghQ_some, List.getElem?_cons_zero, List.getElem?_cons_succ, List.set_cons_zero, List.set_cons_succ, List.map_cons, List.map_nil, List.cons_append, List.nil_append, List.replicate, List.length_cons, List.length_nil, o_add, o_sub, o_lt, o_le, o_gt, o_ge, o_les, o_eq, o_ne, o_eqs, o_nes, o_eqb, o_neb, o_is, o_isNot, o_iadd, o_neg, b_int, b_min, b_max]
      rw [q_law_books_1, w_seq]
      simp only [w_ok, w_c, w_v, w_op, w_un, w_b, w_nil, w_cons, w_call, w_tup, w_lst, w_dct0, w_fld, w_meth, w_make, w_mt, w_get2, w_tru, w_asB, w_not, w_and, w_or, w_chain, w_andV, w_orV, w_notV, w_if, w_isi, w_pNone, w_pSome, w_sl, w_nx, w_brk, w_cnt, w_drop, w_ret, w_retN, w_sif, w_raise, gmN, gmT, gmAll, w_asg, w_sfld, w_ssub, w_saug, w_for, w_iseq, w_irng1, w_irng2, slotQ_some, opQ_some, opD_some, getQ_some, opB_some, blQ_bl, tyQ_some, inQ_int, evQ_some, ghQ_some, List.getElem?_cons_zero, List.getElem?_cons_succ, List.set_cons_zero, List.set_cons_succ, List.map_cons, List.map_nil, List.cons_append, List.nil_append, List.replicate, List.length_cons, List.length_nil, o_add, o_sub, o_lt, o_le, o_gt, o_ge, o_les, o_eq, o_ne, o_eqs, o_nes, o_eqb, o_neb, o_is, o_isNot, o_iadd, o_neg, b_int, b_min, b_max, insQ_of W.led.ob, i1, o_mod (show (0 : Int) < 5 by decide), Int.zero_add, ixs, eo]
      refine ⟨by decide, ?_⟩
      have b3 : Bn G3 (G.n + 5) mids (List.replicate k []) := W.bn.frx fx W.dj
      have ol : (G3.push (.lst [])).ob (G.n + 5) = .lst (mids.map .ref) := by
        have := b3.lt _ List.mem_cons_self
        rw [ob_push_ne _ _ (by omega)]; exact b3.oh
      have ap := m_append (y := .ref G3.n) ol (sz2 (by rw [List.length_map, b3.len, List.length_replicate]; omega))
      simp only [isLst_of b3.oh, true_and, Nat.zero_le, ap, w_ok, w_c, w_v, w_op, w_un, w_b, w_nil, w_cons, w_call, w_tup, w_lst, w_dct0, w_fld, w_meth, w_make, w_mt, w_get2, w_tru, w_asB, w_not, w_and, w_or, w_chain, w_andV, w_orV, w_notV, w_if, w_isi, w_pNone, w_pSome, w_sl, w_nx, w_brk, w_cnt, w_drop, w_ret, w_retN, w_sif, w_raise, gmN, gmT, gmAll, w_asg, w_sfld, w_ssub, w_saug, w_for, w_iseq, w_irng1, w_irng2, slotQ_some, opQ_some, opD_some, getQ_some, opB_some, blQ_bl, tyQ_some, inQ_int, evQ_some, ghQ_some, List.getElem?_cons_zero, List.getElem?_cons_succ, List.set_cons_zero, List.set_cons_succ, List.map_cons, List.map_nil, List.cons_append, List.nil_append, List.replicate, List.length_cons, List.length_nil, o_add, o_sub, o_lt, o_le, o_gt, o_ge, o_les, o_eq, o_ne, o_eqs, o_nes, o_eqb, o_neb, o_is, o_isNot, o_iadd, o_neg, b_int, b_min, b_max]
      have b4 := b3.push
      have lt3 := hl3.lt'
      have F3 : Fr G G3 := ⟨Nat.le_trans F.1 fx.1, fun j hj => (fx.2 j (Nat.lt_of_lt_of_le hj F.1) fun z => by have := W.lo j z; omega).trans (F.2 j hj)⟩
      have sub : ∀ j ∈ foot G.n (G.n + 1) (G.n + 2) (G.n + 3) (G.n + 4) (ids ++ [id]), j ∈ foot G.n (G.n + 1) (G.n + 2) (G.n + 3) (G.n + 4) ids ∨ j = id := fun j hj => by
        unfold foot at hj ⊢
        simp only [List.mem_append, List.mem_cons, List.mem_nil_iff, or_false] at hj ⊢
        rcases hj with hj | hj | hj | hj
        · exact .inl (.inl hj)
        · exact .inl (.inr (.inl hj))
        · exact .inl (.inr (.inr hj))
        · exact .inr hj
      have h5 : (G.n + 5) ∉ foot G.n (G.n + 1) (G.n + 2) (G.n + 3) (G.n + 4) (ids ++ [id]) := fun z => by
        rcases sub _ z with z | z
        · exact W.dj _ List.mem_cons_self z
        · have := W.bn.lt _ List.mem_cons_self
          omega
      refine ⟨ids ++ [id], mids ++ [G3.n], _, rfl, ⟨?_, ?_, fun j hj z => ?_, fun j hj => ?_, fun j hj => ?_⟩, ?_⟩
      · rw [← List.replicate_succ, List.replicate_succ']
        exact hl3.frame (by rw [n_set, n_push]; omega) fun j hj => by
          rw [ob_set_ne _ _ (show j ≠ G.n + 5 from fun z => h5 (by rw [← z]; exact hj)), ob_push_ne _ _ (by have := lt3 j hj; omega)]
      · rw [← List.replicate_succ, List.replicate_succ']; exact b4
      · rcases sub j z with z | z
        · have hlt : j < G2.n := W.led.lt' j z
          have hj' : j ∈ (G.n + 5) :: mids := by
            rcases List.mem_cons.mp hj with q | q
            · exact q ▸ List.mem_cons_self
            · rcases List.mem_append.mp q with q | q
              · exact List.mem_cons_of_mem _ q
              · have : j = G3.n := by simpa using q
                have := fx.1
                omega
          exact W.dj j hj' z
        · subst z
          have hlt3 := lt3 j (by unfold foot; simp)
          rcases List.mem_cons.mp hj with q | q
          · have := W.bn.lt _ List.mem_cons_self
            omega
          · rcases List.mem_append.mp q with q | q
            · have := W.bn.lt j (List.mem_cons_of_mem _ q)
              omega
            · have : j = G3.n := by simpa using q
              omega
      · rcases sub j hj with z | z
        · exact W.lo j z
        · have := F.1; omega
      · rcases List.mem_cons.mp hj with q | q
        · omega
        · rcases List.mem_append.mp q with q | q
          · exact W.lo2 j (List.mem_cons_of_mem _ q)
          · have : j = G3.n := by simpa using q
            have := F3.1
            omega
      · exact (F3.trans (Fr.push _ _)).set _ (by omega)
    · rintro e0 G2 ⟨ids, mids, y, rfl, W, F⟩
      dsimp only
      simp only [w_ok, w_c, w_v, w_op, w_un, w_b, w_nil, w_cons, w_call, w_tup, w_lst, w_dct0, w_fld, w_meth, w_make, w_mt, w_get2, w_tru, w_asB, w_not, w_and, w_or, w_chain, w_andV, w_orV, w_notV, w_if, w_isi, w_pNone, w_pSome, w_sl, w_nx, w_brk, w_cnt, w_drop, w_ret, w_retN, w_sif, w_raise, gmN, gmT, gmAll, w_asg, w_sfld, w_ssub, w_saug, w_for, w_iseq, w_irng1, w_irng2, slotQ_some, opQ_some, opD_some, getQ_some, opB_some, blQ_bl, tyQ_some, inQ_int, evQ_some, ghQ_some, List.getElem?_cons_zero, List.getElem?_cons_succ, List.set_cons_zero, List.set_cons_succ, List.map_cons, List.map_nil, List.cons_append, List.nil_append, List.replicate, List.length_cons, List.length_nil, o_add, o_sub, o_lt, o_le, o_gt, o_ge, o_les, o_eq, o_ne, o_eqs, o_nes, o_eqb, o_neb, o_is, o_isNot, o_iadd, o_neg, b_int, b_min, b_max]
      exact ⟨by decide, _, _, _, _, _, _, ids, mids, n, rfl, by simpa using W, hn1, hn2, F⟩
  obtain ⟨d, G', e1, L, a, l, e, r, M, ids, mids, n, rfl, g1, g2, g3, g4⟩ := Rs.ok_of key
  exact ⟨L, a, l, e, r, M, ids, mids, n, G', e1, g1, g2, g3, g4⟩
end
end Lw
namespace Mi
open PySem PySem.Spec PyProof.Rows L2
def lstQ (o : Ob) (Q : List D → Prop) : Prop := match o with
  | .lst xs => Q xs
  | _ => False
theorem lstQ_of {o : Ob} {xs : List D} {Q : List D → Prop} (h : o = .lst xs) (k : Q xs) : lstQ o Q := by subst h; exact k
theorem w_lc {mi : Ev → M Im} {t : Tm} {nt : Ev → M Bool} {me : Ev → M D} {vs : List Nat} {env : Ev} {G : Gh} {Q : D → Gh → Prop} {E : Nat → Gh → Prop} : (eLc mi t nt me vs env G).sat Q E ↔ (mi env G).sat (fun it G1 => (loopC it t nt me G1.n (wipeE env vs) it.n 0 (G1.push (.lst []))).sat Q E) E := w_bind
theorem lc_sat {it : Im} {t : Tm} {nt : Ev → M Bool} {me : Ev → M D} {l : Nat} {env0 : Ev} {xs : List D} {Q : D → Gh → Prop} {E : Nat → Gh → Prop} (P : Nat → Gh → Prop) (hit : ∀ i G, i ≤ xs.length → P i G → it.at_ i G = some xs[i]?)
    (turn : ∀ i d G, xs[i]? = some d → P i G → evQ (t d G env0) fun e1 => (nt e1 G).sat (fun b G2 => if b = true then (me e1 G2).sat (fun y G3 => lstQ (G3.ob l) fun acc => acc.length < sizeLine ∧ P (i + 1) (G3.set l (.lst (acc ++ [y])))) nE else P (i + 1) G2) nE)
    (done : ∀ G, P xs.length G → Q (.ref l) G) : ∀ (n i : Nat) (G : Gh), n + i = xs.length → P i G → (loopC it t nt me l env0 n i G).sat Q E := by
  intro n
  induction n with
  | zero =>
    intro i G hn p
    have hi : i = xs.length := by omega
    subst hi
    rw [loopC, hit _ G (Nat.le_refl _) p, List.getElem?_eq_none (Nat.le_refl _)]
    exact done G p
  | succ n ih =>
    intro i G hn p
    have hi : i < xs.length := by omega
    rw [loopC, hit i G (by omega) p, List.getElem?_eq_getElem hi]
    dsimp only
    have k := turn i xs[i] G (List.getElem?_eq_getElem hi) p
    cases z : t xs[i] G env0 with
    | none => rw [z] at k; exact k.elim
    | some e1 =>
      rw [z] at k
      have k : (nt e1 G).sat _ nE := k
      dsimp only
      cases z2 : nt e1 G with
      | er c G2 => rw [z2] at k; exact k.elim
      | no => rw [z2] at k; exact k.elim
      | ok b G2 =>
        rw [z2] at k
        have k := w_ok.mp k
        cases b with
        | false =>
          rw [if_neg Bool.false_ne_true] at k
          exact ih (i + 1) G2 (by omega) k
        | true =>
          rw [if_pos rfl] at k
          dsimp only
          cases z3 : me e1 G2 with
          | er c G3 => rw [z3] at k; exact k.elim
          | no => rw [z3] at k; exact k.elim
          | ok y G3 =>
            rw [z3] at k
            have k := w_ok.mp k
            dsimp only
            cases z4 : G3.ob l with
            | lst acc =>
              rw [z4] at k
              obtain ⟨k1, k2⟩ := k
              dsimp only
              rw [if_pos k1]
              exact ih (i + 1) _ (by omega) k2
            | _ => rw [z4] at k; exact k.elim
end Mi
namespace Lw
open PySem PySem.Spec PyProof.Rows L2 Mi
abbrev It2 := Int × Int
def itD (p : It2) : D := .tup [.int p.1, .int p.2]
def usum (us : List It2) : Int := (us.map (·.2)).sum
theorem usum_app (us : List It2) (p : It2) : usum (us ++ [p]) = usum us + p.2 := by unfold usum; simp
section
variable {G : Gh} {L a l e r : Nat} {ids : List Nat} {lns : List (List Ln)} {es : List (Int × List D)}
theorem head_ok (h : Led G L a l e r ids lns es) {day value : Int} {cause : Str} (hd : 0 ≤ day ∧ day ≤ 36524) (hv : 0 ≤ value ∧ value ≤ 36524) (hc : cause.length ≤ 60) (hl : ∀ p, es.getLast? = some p → p.1 ≤ day) :
    m_Ledger_check_head [.ref L, .int day, .int value, .str cause] G = .ok .non G := by
  apply eq_of_sat
  unfold m_Ledger_check_head b_Ledger_check_head
  rw [w_fun]
  refine ⟨rfl, ?_⟩
  have e1 : (decide (0 ≤ day) && decide (day ≤ 36524)) = true := by simp; omega
  have e2 : (decide (0 ≤ value) && decide (value ≤ 36524)) = true := by simp; omega
  rw [q_Ledger_check_head_1, w_seq]; simp only [w_ok, w_c, w_v, w_op, w_un, w_b, w_nil, w_cons, w_call, w_tup, w_lst, w_dct0, w_fld, w_meth, w_make, w_mt, w_get2, w_tru, w_asB, w_not, w_and, w_or, w_chain, w_andV, w_orV, w_notV, w_if, w_isi, w_pNone, w_pSome, w_sl, w_nx, w_brk, w_cnt, w_drop, w_ret, w_retN, w_sif, w_raise, gmN, gmT, gmAll, w_asg, w_sfld, w_ssub, w_saug, w_for, w_iseq, w_irng1, w_irng2, slotQ_some, opQ_some, opD_some, getQ_some, opB_some, blQ_bl, tyQ_some, inQ_int, evQ_some, ghQ_some, List.getElem?_cons_zero, List.getElem?_cons_succ, List.set_cons_zero, List.set_cons_succ, List.map_cons, List.map_nil, List.cons_append, List.nil_append, List.replicate, List.length_cons, List.length_nil, o_add, o_sub, o_lt, o_le, o_gt, o_ge, o_les, o_eq, o_ne, o_eqs, o_nes, o_eqb, o_neb, o_is, o_isNot, o_iadd, o_neg, b_int, b_min, b_max, is_day_eq, truD, e1, e2, Bool.not_true, Bool.false_eq_true, if_false]
  have lc : lenD (.str cause) G = some cause.length := by unfold lenD; dsimp only; rw [if_pos (sz1 (show cause.length ≤ 1000000 by omega))]
  have hb : decide ((60 : Int) < (cause.length : Int)) = false := by rw [decide_eq_false_iff_not]; omega
  rw [q_Ledger_check_head_2, w_seq]
  have ht : truD (.ref e) G = some (!(es.map fun p => D.tup (.int p.1 :: p.2)).isEmpty) := by unfold truD; dsimp only; rw [h.oe]
  simp only [w_ok, w_c, w_v, w_op, w_un, w_b, w_nil, w_cons, w_call, w_tup, w_lst, w_dct0, w_fld, w_meth, w_make, w_mt, w_get2, w_tru, w_asB, w_not, w_and, w_or, w_chain, w_andV, w_orV, w_notV, w_if, w_isi, w_pNone, w_pSome, w_sl, w_nx, w_brk, w_cnt, w_drop, w_ret, w_retN, w_sif, w_raise, gmN, gmT, gmAll, w_asg, w_sfld, w_ssub, w_saug, w_for, w_iseq, w_irng1, w_irng2, slotQ_some, opQ_some, opD_some, getQ_some, opB_some, blQ_bl, tyQ_some, inQ_int, evQ_some, ghQ_some, List.getElem?_cons_zero, List.getElem?_cons_succ, List.set_cons_zero, List.set_cons_succ, List.map_cons, List.map_nil, List.cons_append, List.nil_append, List.replicate, List.length_cons, List.length_nil, o_add, o_sub, o_lt, o_le, o_gt, o_ge, o_les, o_eq, o_ne, o_eqs, o_nes, o_eqb, o_neb, o_is, o_isNot, o_iadd, o_neg, b_int, b_min, b_max, h.f15, ht]
  rcases List.eq_nil_or_concat es with rfl | ⟨es, p, e0⟩
  · simp only [List.map_nil, List.isEmpty_nil, Bool.not_true, Bool.false_eq_true, if_false, b_len lc, opQ_some, o_gt, blQ_bl, hb]
    trivial
  · rw [List.concat_eq_append] at e0
    subst e0
    have hp := hl p (by simp)
    have ix1 : opIx (.ref e) (.int (-1)) G = some (.tup (.int p.1 :: p.2), G) := by
      refine ix_lst h.oe ?_
      unfold L2.atI L2.ixN
      rw [List.map_append, List.length_append, List.length_map, if_neg (by decide), if_pos (by simp; omega)]
      show (_ : List D)[(-1 + ((es.length + [p].length : Nat) : Int)).toNat]? = _
      rw [show (-1 + ((es.length + [p].length : Nat) : Int)).toNat = es.length by simp; omega]
      rw [List.getElem?_append_right (by rw [List.length_map]; exact Nat.le_refl _), List.length_map]
      simp
    have ix0 : opIx (.tup (.int p.1 :: p.2)) (.int 0) G = some (.int p.1, G) := by
      refine ix_tup ?_
      unfold L2.atI L2.ixN
      rw [if_pos (Int.le_refl 0), if_pos (by simp)]
      rfl
    have hb2 : decide (day < p.1) = false := by rw [decide_eq_false_iff_not]; omega
    have hne : (!(List.map (fun p => D.tup (D.int p.fst :: p.snd)) (es ++ [p])).isEmpty) = true := by simp
    rw [hne]
    simp only [if_true, ix1, ix0, opQ_some, o_lt, o_gt, blQ_bl, hb2, hb, b_len lc, Bool.false_eq_true, if_false]
    trivial
theorem w_forK {j : Nat} {t : Mi.Tm} {s : Sm} {env : Ev} {G : Gh} {q : Pq} {l : Nat} {kvs : List (Key × D)} (he : env[j]? = some (some (.ref l))) (ho : G.ob l = .dct kvs) : (sForK j t s env G).sat q ↔ (unlR l (loopR ⟨kvs.length, fun i _ => some (kvs[i]?.map fun p => keyV p.1)⟩ t s kvs.length 0 env (G.set l (.lk kvs)))).sat q := by
  unfold sForK
  rw [he]
  dsimp only
  rw [ho]
theorem lines_ok (h : Led G L a l e r ids lns es) {X : Nat} {us : List It2} (hX : G.ob X = .lst (us.map itD)) (hXn : X < G.n) (h2 : 2 ≤ us.length) (h20 : us.length ≤ 20) (hu : ∀ p ∈ us, (1 ≤ p.1 ∧ p.1 ≤ lns.length) ∧ p.2 ≠ 0 ∧ -1000000000 ≤ p.2 ∧ p.2 ≤ 1000000000) (hs : usum us = 0) :
    ∃ G', m_Ledger_check_lines [.ref L, .ref X] G = .ok .non G' ∧ Fr G G' := by
  have key : (m_Ledger_check_lines [.ref L, .ref X] G).sat (fun d G' => d = .non ∧ Fr G G') nE := by
    unfold m_Ledger_check_lines b_Ledger_check_lines
    rw [w_fun]
    refine ⟨rfl, ?_⟩
    have hl : lenD (.ref X) G = some us.length := (len_lst hX).trans (by rw [List.length_map])
    have c1 : decide ((2 : Int) ≤ (us.length : Int)) = true := by rw [decide_eq_true_iff]; omega
    have c2 : decide ((us.length : Int) ≤ (20 : Int)) = true := by rw [decide_eq_true_iff]; omega
    rw [q_Ledger_check_lines_3, w_seq]; simp only [w_ok, w_c, w_v, w_op, w_un, w_b, w_nil, w_cons, w_call, w_tup, w_lst, w_dct0, w_fld, w_meth, w_make, w_mt, w_get2, w_tru, w_asB, w_not, w_and, w_or, w_chain, w_andV, w_orV, w_notV, w_if, w_isi, w_pNone, w_pSome, w_sl, w_nx, w_brk, w_cnt, w_drop, w_ret, w_retN, w_sif, w_raise, gmN, gmT, gmAll, w_asg, w_sfld, w_ssub, w_saug, w_for, w_iseq, w_irng1, w_irng2, slotQ_some, opQ_some, opD_some, getQ_some, opB_some, blQ_bl, tyQ_some, inQ_int, evQ_some, ghQ_some, List.getElem?_cons_zero, List.getElem?_cons_succ, List.set_cons_zero, List.set_cons_succ, List.map_cons, List.map_nil, List.cons_append, List.nil_append, List.replicate, List.length_cons, List.length_nil, o_add, o_sub, o_lt, o_le, o_gt, o_ge, o_les, o_eq, o_ne, o_eqs, o_nes, o_eqb, o_neb, o_is, o_isNot, o_iadd, o_neg, b_int, b_min, b_max, b_len hl, c1, c2, if_true, Bool.not_true, Bool.false_eq_true, if_false]
    rw [q_Ledger_check_lines_4, w_seq]; simp only [w_ok, w_c, w_v, w_op, w_un, w_b, w_nil, w_cons, w_call, w_tup, w_lst, w_dct0, w_fld, w_meth, w_make, w_mt, w_get2, w_tru, w_asB, w_not, w_and, w_or, w_chain, w_andV, w_orV, w_notV, w_if, w_isi, w_pNone, w_pSome, w_sl, w_nx, w_brk, w_cnt, w_drop, w_ret, w_retN, w_sif, w_raise, gmN, gmT, gmAll, w_asg, w_sfld, w_ssub, w_saug, w_for, w_iseq, w_irng1, w_irng2, slotQ_some, opQ_some, opD_some, getQ_some, opB_some, blQ_bl, tyQ_some, inQ_int, evQ_some, ghQ_some, List.getElem?_cons_zero, List.getElem?_cons_succ, List.set_cons_zero, List.set_cons_succ, List.map_cons, List.map_nil, List.cons_append, List.nil_append, List.replicate, List.length_cons, List.length_nil, o_add, o_sub, o_lt, o_le, o_gt, o_ge, o_les, o_eq, o_ne, o_eqs, o_nes, o_eqb, o_neb, o_is, o_isNot, o_iadd, o_neg, b_int, b_min, b_max]
    have hX2 : ∀ o, (G.push o).ob X = .lst (us.map itD) := fun o => by rw [ob_push_ne _ _ (by omega)]; exact hX
    rw [q_Ledger_check_lines_5, w_seq]; simp only [w_ok, w_c, w_v, w_op, w_un, w_b, w_nil, w_cons, w_call, w_tup, w_lst, w_dct0, w_fld, w_meth, w_make, w_mt, w_get2, w_tru, w_asB, w_not, w_and, w_or, w_chain, w_andV, w_orV, w_notV, w_if, w_isi, w_pNone, w_pSome, w_sl, w_nx, w_brk, w_cnt, w_drop, w_ret, w_retN, w_sif, w_raise, gmN, gmT, gmAll, w_asg, w_sfld, w_ssub, w_saug, w_for, w_iseq, w_irng1, w_irng2, slotQ_some, opQ_some, opD_some, getQ_some, opB_some, blQ_bl, tyQ_some, inQ_int, evQ_some, ghQ_some, List.getElem?_cons_zero, List.getElem?_cons_succ, List.set_cons_zero, List.set_cons_succ, List.map_cons, List.map_nil, List.cons_append, List.nil_append, List.replicate, List.length_cons, List.length_nil, o_add, o_sub, o_lt, o_le, o_gt, o_ge, o_les, o_eq, o_ne, o_eqs, o_nes, o_eqb, o_neb, o_is, o_isNot, o_iadd, o_neg, b_int, b_min, b_max]
    refine seq_lst_sat (hX2 _) (fun k e0 G' => ∃ (kvs : List (Key × D)) (y3 y4 y5 : Option D), e0 = [some (.ref L), some (.ref X), some (.ref G.n), y3, y4, y5] ∧ G' = G.push (.dct kvs) ∧ ((k = 0 ∧ kvs = []) ∨ (kvs = [(.inr "EUR", .int (usum (us.take k)))]))) ⟨[], none, none, none, rfl, rfl, .inl ⟨rfl, rfl⟩⟩ ?_ ?_ ?_
    · rintro k e0 G' ⟨kvs, y3, y4, y5, rfl, rfl, _⟩
      exact hX2 _
    · rintro k d e0 G' hd ⟨kvs, y3, y4, y5, rfl, rfl, hk⟩
      rw [List.getElem?_map] at hd
      obtain ⟨p, hp, rfl⟩ := Option.map_eq_some_iff.mp hd
      obtain ⟨g1, g2, g3, g4⟩ := hu p (List.mem_of_getElem? hp)
      have hled := h.fr (Fr.push G (.dct kvs))
      have hob : (G.push (.dct kvs)).ob G.n = .dct kvs := ob_push_same _ _
      simp only [itD, w_ok, w_c, w_v, w_op, w_un, w_b, w_nil, w_cons, w_call, w_tup, w_lst, w_dct0, w_fld, w_meth, w_make, w_mt, w_get2, w_tru, w_asB, w_not, w_and, w_or, w_chain, w_andV, w_orV, w_notV, w_if, w_isi, w_pNone, w_pSome, w_sl, w_nx, w_brk, w_cnt, w_drop, w_ret, w_retN, w_sif, w_raise, gmN, gmT, gmAll, w_asg, w_sfld, w_ssub, w_saug, w_for, w_iseq, w_irng1, w_irng2, slotQ_some, opQ_some, opD_some, getQ_some, opB_some, blQ_bl, tyQ_some, inQ_int, evQ_some, ghQ_some, List.getElem?_cons_zero, List.getElem?_cons_succ, List.set_cons_zero, List.set_cons_succ, List.map_cons, List.map_nil, List.cons_append, List.nil_append, List.replicate, List.length_cons, List.length_nil]
      rw [q_Ledger_check_lines_1, w_seq]
      simp only [w_ok, w_c, w_v, w_op, w_un, w_b, w_nil, w_cons, w_call, w_tup, w_lst, w_dct0, w_fld, w_meth, w_make, w_mt, w_get2, w_tru, w_asB, w_not, w_and, w_or, w_chain, w_andV, w_orV, w_notV, w_if, w_isi, w_pNone, w_pSome, w_sl, w_nx, w_brk, w_cnt, w_drop, w_ret, w_retN, w_sif, w_raise, gmN, gmT, gmAll, w_asg, w_sfld, w_ssub, w_saug, w_for, w_iseq, w_irng1, w_irng2, slotQ_some, opQ_some, opD_some, getQ_some, opB_some, blQ_bl, tyQ_some, inQ_int, evQ_some, ghQ_some, List.getElem?_cons_zero, List.getElem?_cons_succ, List.set_cons_zero, List.set_cons_succ, List.map_cons, List.map_nil, List.cons_append, List.nil_append, List.replicate, List.length_cons, List.length_nil, o_add, o_sub, o_lt, o_le, o_gt, o_ge, o_les, o_eq, o_ne, o_eqs, o_nes, o_eqb, o_neb, o_is, o_isNot, o_iadd, o_neg, b_int, b_min, b_max, insQ_of hled.ob, currency_of_ok hled g1]
      have c3 : decide (p.2 = 0) = false := by rw [decide_eq_false_iff_not]; exact g2
      have c4 : decide ((0 : Int) - 1000000000 ≤ p.2) = true := by rw [decide_eq_true_iff]; omega
      have c5 : decide (p.2 ≤ (1000000000 : Int)) = true := by rw [decide_eq_true_iff]; omega
      rw [q_Ledger_check_lines_2, w_seq]
      simp only [w_ok, w_c, w_v, w_op, w_un, w_b, w_nil, w_cons, w_call, w_tup, w_lst, w_dct0, w_fld, w_meth, w_make, w_mt, w_get2, w_tru, w_asB, w_not, w_and, w_or, w_chain, w_andV, w_orV, w_notV, w_if, w_isi, w_pNone, w_pSome, w_sl, w_nx, w_brk, w_cnt, w_drop, w_ret, w_retN, w_sif, w_raise, gmN, gmT, gmAll, w_asg, w_sfld, w_ssub, w_saug, w_for, w_iseq, w_irng1, w_irng2, slotQ_some, opQ_some, opD_some, getQ_some, opB_some, blQ_bl, tyQ_some, inQ_int, evQ_some, ghQ_some, List.getElem?_cons_zero, List.getElem?_cons_succ, List.set_cons_zero, List.set_cons_succ, List.map_cons, List.map_nil, List.cons_append, List.nil_append, List.replicate, List.length_cons, List.length_nil, o_add, o_sub, o_lt, o_le, o_gt, o_ge, o_les, o_eq, o_ne, o_eqs, o_nes, o_eqb, o_neb, o_is, o_isNot, o_iadd, o_neg, b_int, b_min, b_max, c3, c4, c5, if_true, Bool.not_true, Bool.false_eq_true, if_false]
      have hv : (valD kvs (.inr "EUR")).getD (.int 0) = .int (usum (us.take k)) := by
        rcases hk with ⟨rfl, rfl⟩ | rfl
        · rfl
        · simp [valD]
      have hput := set_dct (d := .int (usum (us.take k) + p.2)) (x := .str "EUR") hob (kk := .inr "EUR") rfl (by rcases hk with ⟨_, rfl⟩ | rfl <;> exact sz2 (by simp))
      simp only [dct_ob hob, keyD, Option.isSome_some, true_and, hv, hput, w_ok, w_c, w_v, w_op, w_un, w_b, w_nil, w_cons, w_call, w_tup, w_lst, w_dct0, w_fld, w_meth, w_make, w_mt, w_get2, w_tru, w_asB, w_not, w_and, w_or, w_chain, w_andV, w_orV, w_notV, w_if, w_isi, w_pNone, w_pSome, w_sl, w_nx, w_brk, w_cnt, w_drop, w_ret, w_retN, w_sif, w_raise, gmN, gmT, gmAll, w_asg, w_sfld, w_ssub, w_saug, w_for, w_iseq, w_irng1, w_irng2, slotQ_some, opQ_some, opD_some, getQ_some, opB_some, blQ_bl, tyQ_some, inQ_int, evQ_some, ghQ_some, List.getElem?_cons_zero, List.getElem?_cons_succ, List.set_cons_zero, List.set_cons_succ, List.map_cons, List.map_nil, List.cons_append, List.nil_append, List.replicate, List.length_cons, List.length_nil, o_add, o_sub, o_lt, o_le, o_gt, o_ge, o_les, o_eq, o_ne, o_eqs, o_nes, o_eqb, o_neb, o_is, o_isNot, o_iadd, o_neg, b_int, b_min, b_max]
      refine ⟨_, _, _, _, rfl, push_set _ _ _, .inr ?_⟩
      rw [take_more hp, usum_app]
      rcases hk with ⟨_, rfl⟩ | rfl
      · rfl
      · simp [putD]
    · rintro e0 G' ⟨kvs, y3, y4, y5, rfl, rfl, hk⟩
      rw [List.length_map, List.take_length, hs] at hk
      dsimp only
      have hk : kvs = [(.inr "EUR", .int 0)] := by
        rcases hk with ⟨z, _⟩ | z
        · omega
        · exact z
      subst hk
      refine (w_forK (l := G.n) rfl (ob_push_same _ _)).mpr ?_
      have hlk : ((G.push (.dct [(Sum.inr "EUR", D.int 0)])).set G.n (.lk [(Sum.inr "EUR", D.int 0)])).ob G.n = .lk [(.inr "EUR", .int 0)] := ob_set_same _ _ _
      have ixl : opIx (.ref G.n) (.str "EUR") ((G.push (.dct [(Sum.inr "EUR", D.int 0)])).set G.n (.lk [(Sum.inr "EUR", D.int 0)])) = some (.int 0, (G.push (.dct [(Sum.inr "EUR", D.int 0)])).set G.n (.lk [(Sum.inr "EUR", D.int 0)])) := ix_lk hlk (kk := .inr "EUR") rfl (by simp [valD])
      have body : (sIf (asB (eOp opNe (eOp opIx (eVar 2) (eVar 5)) (eC (.int 0)))) (sRaise 1) sNx ([some (.ref L), some (.ref X), some (.ref G.n), y3, y4, some (.str "EUR")] : Ev) ((G.push (.dct [(Sum.inr "EUR", D.int 0)])).set G.n (.lk [(Sum.inr "EUR", D.int 0)]))) = .nx [some (.ref L), some (.ref X), some (.ref G.n), y3, y4, some (.str "EUR")] ((G.push (.dct [(Sum.inr "EUR", D.int 0)])).set G.n (.lk [(Sum.inr "EUR", D.int 0)])) := by
        unfold sIf asB eOp eVar eC
        simp [Rs.bind, exS, lift, ixl, o_ne, sNx]
      have run : loopR ⟨1, fun i _ => some ([((Sum.inr "EUR" : Key), D.int 0)][i]?.map fun p => keyV p.1)⟩ (gmN 5) (sIf (asB (eOp opNe (eOp opIx (eVar 2) (eVar 5)) (eC (.int 0)))) (sRaise 1) sNx) 1 0 ([some (.ref L), some (.ref X), some (.ref G.n), y3, y4, y5] : Ev) ((G.push (.dct [(Sum.inr "EUR", D.int 0)])).set G.n (.lk [(Sum.inr "EUR", D.int 0)])) = .nx [some (.ref L), some (.ref X), some (.ref G.n), y3, y4, some (.str "EUR")] ((G.push (.dct [(Sum.inr "EUR", D.int 0)])).set G.n (.lk [(Sum.inr "EUR", D.int 0)])) := by
        rw [loopR]
        dsimp only [List.getElem?_cons_zero, Option.map, keyV, gmN, List.set_cons_succ, List.set_cons_zero]
        rw [body]
        rfl
      show Ro.sat (unlR G.n (loopR ⟨1, fun i _ => some ([((Sum.inr "EUR" : Key), D.int 0)][i]?.map fun p => keyV p.1)⟩ (gmN 5) (sIf (asB (eOp opNe (eOp opIx (eVar 2) (eVar 5)) (eC (.int 0)))) (sRaise 1) sNx) 1 0 ([some (.ref L), some (.ref X), some (.ref G.n), y3, y4, y5] : Ev) ((G.push (.dct [(Sum.inr "EUR", D.int 0)])).set G.n (.lk [(Sum.inr "EUR", D.int 0)])))) _
      rw [run]
      unfold unlR
      dsimp only
      rw [hlk]
      exact ⟨trivial, ((Fr.push G _).set _ (Nat.le_refl _)).set _ (Nat.le_refl _)⟩
  obtain ⟨d, G', e1, rfl, g1⟩ := Rs.ok_of key
  exact ⟨G', e1, g1⟩
end
end Lw
namespace Lw
open PySem PySem.Spec PyProof.Rows L2 Mi
def addAll (lns : List (List Ln)) (no d v : Int) (us : List It2) : List (List Ln) := us.foldl (fun acc p => addLn acc (p.1 - 1).toNat (no, d, v, p.2)) lns
theorem addAll_len {no d v : Int} : ∀ (us : List It2) (lns : List (List Ln)), (addAll lns no d v us).length = lns.length
  | [], _ => rfl
  | p :: us, lns => by
    show (addAll (addLn lns _ _) no d v us).length = _
    rw [addAll_len us, addLn_len]
theorem addAll_more {no d v : Int} {lns : List (List Ln)} {us : List It2} {p : It2} {k : Nat} (h : us[k]? = some p) : addAll lns no d v (us.take (k + 1)) = addLn (addAll lns no d v (us.take k)) (p.1 - 1).toNat (no, d, v, p.2) := by
  rw [take_more h]
  unfold addAll
  rw [List.foldl_append]; rfl
theorem addLn_bound {lns : List (List Ln)} {i : Nat} {x : Ln} {m : Nat} (h : ∀ ls ∈ lns, ls.length ≤ m) : ∀ ls ∈ addLn lns i x, ls.length ≤ m + 1 := by
  intro ls hm
  obtain ⟨j, hj⟩ := List.mem_iff_getElem?.mp hm
  unfold addLn at hj
  rw [List.getElem?_modify] at hj
  cases e : lns[j]? with
  | none => rw [e] at hj; cases hj
  | some l0 =>
    rw [e] at hj
    have := h l0 (List.mem_of_getElem? e)
    simp at hj
    subst hj
    split
    · rw [List.length_append]; simp; omega
    · omega
theorem addAll_bound {no d v : Int} : ∀ (us : List It2) (lns : List (List Ln)) (m : Nat), (∀ ls ∈ lns, ls.length ≤ m) → ∀ ls ∈ addAll lns no d v us, ls.length ≤ m + us.length
  | [], lns, m, h => h
  | p :: us, lns, m, h => by
    intro ls hm
    have := addAll_bound us (addLn lns (p.1 - 1).toNat (no, d, v, p.2)) (m + 1) (addLn_bound h) ls hm
    rw [List.length_cons]; omega
/-- one more line by the account's number -/
theorem Bn.addI {G : Gh} {h : Nat} {ids : List Nat} {lns : List (List Ln)} (b : Bn G h ids lns) {i : Int} (hi : 1 ≤ i ∧ i ≤ lns.length) (hz : ∀ ls ∈ lns, ls.length ≤ 100000) (x : Ln) :
    ∃ id o, id ∈ ids ∧ G.ob id = .lst o ∧ opIx (.ref h) (.int (i - 1)) G = some (.ref id, G) ∧ mAppend (.ref id) [lnD x] G = some (.non, G.set id (.lst (o ++ [lnD x]))) ∧ Bn (G.set id (.lst (o ++ [lnD x]))) h ids (addLn lns (i - 1).toNat x) := by
  obtain ⟨id, ls, e1, e2, e3, e4, e5⟩ := bn_ix b hi
  have := hz ls (List.mem_of_getElem? e2)
  exact ⟨id, _, List.mem_of_getElem? e1, e3, e5, m_append e3 (sz2 (by rw [List.length_map]; omega)), b.add e1 e2 x⟩
section
variable {G : Gh} {L a l e r : Nat} {ids : List Nat} {lns : List (List Ln)} {es : List (Int × List D)}
theorem Led.line (h : Led G L a l e r ids lns es) {lns' : List (List Ln)} {id : Nat} {o : List D} (hid : id ∈ ids) (b : Bn (G.set id (.lst o)) l ids lns') (hn : lns'.length = lns.length) : Led (G.set id (.lst o)) L a l e r ids lns' es := by
  have nd := h.nd
  rw [List.nodup_append] at nd
  have ne : ∀ j ∈ [L, a, e, r], j ≠ id := fun j hj => nd.2.2 j hj id (List.mem_cons_of_mem _ hid)
  obtain ⟨acc, h1, h2⟩ := h.oa
  exact ⟨(ob_set_ne G _ (ne L (by simp))).trans h.ob, ⟨acc, by rw [h1, hn], (ob_set_ne G _ (ne a (by simp))).trans h2⟩, b, (ob_set_ne G _ (ne e (by simp))).trans h.oe, h.nd, h.lt⟩
theorem Led.entry (h : Led G L a l e r ids lns es) (p : Int × List D) : Led (G.set e (.lst ((es.map fun p => D.tup (.int p.1 :: p.2)) ++ [.tup (.int p.1 :: p.2)]))) L a l e r ids lns (es ++ [p]) := by
  have nd := h.nd
  simp only [List.cons_append, List.nil_append, List.nodup_cons, List.mem_cons, not_or] at nd
  obtain ⟨⟨d1, d2, d3, d4, d5⟩, ⟨d6, d7, d8, d9⟩, ⟨d10, d11, d12⟩, ⟨d13, d14⟩, d15, d16⟩ := nd
  obtain ⟨acc, h1, h2⟩ := h.oa
  refine ⟨(ob_set_ne G _ d2).trans h.ob, ⟨acc, h1, (ob_set_ne G _ d6).trans h2⟩, h.bn.frame (Nat.le_refl _) fun j hj => ob_set_ne G _ fun z => ?_, by rw [ob_set_same, List.map_append]; rfl, h.nd, h.lt⟩
  subst z
  rcases List.mem_cons.mp hj with z | z
  · exact d11 z
  · exact d12 z
theorem add_ok (h : Led G L a l e r ids lns es) {X : Nat} {us : List It2} (hX : G.ob X = .lst (us.map itD)) (hXn : X < G.n) (hXf : X ∉ foot L a l e r ids) (h20 : us.length ≤ 20) (hu : ∀ p ∈ us, 1 ≤ p.1 ∧ p.1 ≤ lns.length) (hes : es.length < 1000) (hz : ∀ ls ∈ lns, ls.length ≤ 50000) (day value : Int) (cause : Str) :
    ∃ G' rest, m_Ledger_add [.ref L, .int day, .int value, .str cause, .ref X, .non] G = .ok (.int (es.length + 1)) G' ∧ Led G' L a l e r ids (addAll lns (es.length + 1) day value us) (es ++ [(day, rest)]) ∧ FrX (foot L a l e r ids) G G' := by
  have key : (m_Ledger_add [.ref L, .int day, .int value, .str cause, .ref X, .non] G).sat (fun d G' => ∃ rest, d = .int (es.length + 1) ∧ Led G' L a l e r ids (addAll lns (es.length + 1) day value us) (es ++ [(day, rest)]) ∧ FrX (foot L a l e r ids) G G') nE := by
    unfold m_Ledger_add b_Ledger_add
    rw [w_fun]
    refine ⟨rfl, ?_⟩
    have hl : lenD (.ref e) G = some es.length := (len_lst h.oe).trans (by rw [List.length_map])
    have c1 : decide ((2000 : Int) ≤ (es.length : Int)) = false := by rw [decide_eq_false_iff_not]; omega
    rw [q_Ledger_add_1, w_seq]; simp only [w_ok, w_c, w_v, w_op, w_un, w_b, w_nil, w_cons, w_call, w_tup, w_lst, w_dct0, w_fld, w_meth, w_make, w_mt, w_get2, w_tru, w_asB, w_not, w_and, w_or, w_chain, w_andV, w_orV, w_notV, w_if, w_isi, w_pNone, w_pSome, w_sl, w_nx, w_brk, w_cnt, w_drop, w_ret, w_retN, w_sif, w_raise, gmN, gmT, gmAll, w_asg, w_sfld, w_ssub, w_saug, w_for, w_iseq, w_irng1, w_irng2, slotQ_some, opQ_some, opD_some, getQ_some, opB_some, blQ_bl, tyQ_some, inQ_int, evQ_some, ghQ_some, List.getElem?_cons_zero, List.getElem?_cons_succ, List.set_cons_zero, List.set_cons_succ, List.map_cons, List.map_nil, List.cons_append, List.nil_append, List.replicate, List.length_cons, List.length_nil, o_add, o_sub, o_lt, o_le, o_gt, o_ge, o_les, o_eq, o_ne, o_eqs, o_nes, o_eqb, o_neb, o_is, o_isNot, o_iadd, o_neg, b_int, b_min, b_max, h.f15, b_len hl, c1, Bool.false_eq_true, if_false]
    rw [q_Ledger_add_2, w_seq]; simp only [w_ok, w_c, w_v, w_op, w_un, w_b, w_nil, w_cons, w_call, w_tup, w_lst, w_dct0, w_fld, w_meth, w_make, w_mt, w_get2, w_tru, w_asB, w_not, w_and, w_or, w_chain, w_andV, w_orV, w_notV, w_if, w_isi, w_pNone, w_pSome, w_sl, w_nx, w_brk, w_cnt, w_drop, w_ret, w_retN, w_sif, w_raise, gmN, gmT, gmAll, w_asg, w_sfld, w_ssub, w_saug, w_for, w_iseq, w_irng1, w_irng2, slotQ_some, opQ_some, opD_some, getQ_some, opB_some, blQ_bl, tyQ_some, inQ_int, evQ_some, ghQ_some, List.getElem?_cons_zero, List.getElem?_cons_succ, List.set_cons_zero, List.set_cons_succ, List.map_cons, List.map_nil, List.cons_append, List.nil_append, List.replicate, List.length_cons, List.length_nil, o_add, o_sub, o_lt, o_le, o_gt, o_ge, o_les, o_eq, o_ne, o_eqs, o_nes, o_eqb, o_neb, o_is, o_isNot, o_iadd, o_neg, b_int, b_min, b_max, h.f15, b_len hl]
    rw [q_Ledger_add_3, w_seq]; simp only [w_ok, w_c, w_v, w_op, w_un, w_b, w_nil, w_cons, w_call, w_tup, w_lst, w_dct0, w_fld, w_meth, w_make, w_mt, w_get2, w_tru, w_asB, w_not, w_and, w_or, w_chain, w_andV, w_orV, w_notV, w_if, w_isi, w_pNone, w_pSome, w_sl, w_nx, w_brk, w_cnt, w_drop, w_ret, w_retN, w_sif, w_raise, gmN, gmT, gmAll, w_asg, w_sfld, w_ssub, w_saug, w_for, w_iseq, w_irng1, w_irng2, slotQ_some, opQ_some, opD_some, getQ_some, opB_some, blQ_bl, tyQ_some, inQ_int, evQ_some, ghQ_some, List.getElem?_cons_zero, List.getElem?_cons_succ, List.set_cons_zero, List.set_cons_succ, List.map_cons, List.map_nil, List.cons_append, List.nil_append, List.replicate, List.length_cons, List.length_nil, o_add, o_sub, o_lt, o_le, o_gt, o_ge, o_les, o_eq, o_ne, o_eqs, o_nes, o_eqb, o_neb, o_is, o_isNot, o_iadd, o_neg, b_int, b_min, b_max]
    refine seq_lst_sat hX (fun k e0 G' => ∃ (y7 y8 : Option D), e0 = [some (.ref L), some (.int day), some (.int value), some (.str cause), some (.ref X), some .non, some (.int (es.length + 1)), y7, y8, none] ∧ Led G' L a l e r ids (addAll lns (es.length + 1) day value (us.take k)) es ∧ FrX (foot L a l e r ids) G G' ∧ G'.n = G.n) ⟨none, none, rfl, by simpa [addAll] using h, .refl _ _, rfl⟩ ?_ ?_ ?_
    · rintro k e0 G' ⟨y7, y8, rfl, _, f, _⟩
      exact (f.2 X hXn hXf).trans hX
    · rintro k d e0 G' hd ⟨y7, y8, rfl, hl, f, hn⟩
      rw [List.getElem?_map] at hd
      obtain ⟨p, hp, rfl⟩ := Option.map_eq_some_iff.mp hd
      have hk : k < us.length := (List.getElem?_eq_some_iff.mp hp).1
      have hi : 1 ≤ p.1 ∧ p.1 ≤ (addAll lns (es.length + 1) day value (us.take k)).length := by rw [addAll_len]; exact hu p (List.mem_of_getElem? hp)
      have hzz : ∀ ls ∈ addAll lns (es.length + 1) day value (us.take k), ls.length ≤ 100000 := fun ls hm => by
        have := addAll_bound (us.take k) lns 50000 hz ls hm
        rw [List.length_take] at this
        omega
      obtain ⟨id, o, hid, ho, ix, ap, b2⟩ := hl.bn.addI hi hzz (es.length + 1, day, value, p.2)
      have ap : mAppend (.ref id) [.tup [.int (es.length + 1), .int day, .int value, .int p.2]] G' = some (.non, G'.set id (.lst (o ++ [lnD (es.length + 1, day, value, p.2)]))) := ap
      simp only [itD, w_ok, w_c, w_v, w_op, w_un, w_b, w_nil, w_cons, w_call, w_tup, w_lst, w_dct0, w_fld, w_meth, w_make, w_mt, w_get2, w_tru, w_asB, w_not, w_and, w_or, w_chain, w_andV, w_orV, w_notV, w_if, w_isi, w_pNone, w_pSome, w_sl, w_nx, w_brk, w_cnt, w_drop, w_ret, w_retN, w_sif, w_raise, gmN, gmT, gmAll, w_asg, w_sfld, w_ssub, w_saug, w_for, w_iseq, w_irng1, w_irng2, slotQ_some, opQ_some, opD_some, getQ_some, opB_some, blQ_bl, tyQ_some, inQ_int, evQ_some, ghQ_some, List.getElem?_cons_zero, List.getElem?_cons_succ, List.set_cons_zero, List.set_cons_succ, List.map_cons, List.map_nil, List.cons_append, List.nil_append, List.replicate, List.length_cons, List.length_nil, o_add, o_sub, o_lt, o_le, o_gt, o_ge, o_les, o_eq, o_ne, o_eqs, o_nes, o_eqb, o_neb, o_is, o_isNot, o_iadd, o_neg, b_int, b_min, b_max, hl.f14, ix, isLst_of ho, ap, true_and]
      refine ⟨by decide, _, _, rfl, ?_, f.set _ (.inl (by unfold foot; simp [hid])), hn⟩
      rw [addAll_more hp]
      exact hl.line hid b2 addLn_len
    · rintro e0 G' ⟨y7, y8, rfl, hl, f, hn⟩
      rw [List.length_map, List.take_length] at hl
      have hXG : G'.ob X = .lst (us.map itD) := (f.2 X hXn hXf).trans hX
      dsimp only
      rw [q_Ledger_add_4, w_seq, w_asg]
      simp only [w_b, w_cons, w_nil, w_lc, w_iseq, w_v, List.getElem?_cons_succ, List.getElem?_cons_zero, slotQ_some]
      have sq : seqI (.ref X) G' = some ⟨(us.map itD).length, fun i G => match G.ob X with | .lst xs => some xs[i]? | _ => none⟩ := by
        unfold seqI; dsimp only; rw [hXG]; try rfl
      rw [sq]
      refine lc_sat (xs := us.map itD) (fun k G2 => G2 = G'.push (.lst ((us.take k).map itD))) (fun i G2 _ p => ?_) (fun k d G2 hd p => ?_) (fun G2 p => ?_) _ 0 _ rfl rfl
      · subst p
        show (match (G'.push _).ob X with | .lst xs => some xs[i]? | _ => none) = _
        rw [ob_push_ne _ _ (by omega), hXG]
      · subst p
        rw [List.getElem?_map] at hd
        obtain ⟨p, hp, rfl⟩ := Option.map_eq_some_iff.mp hd
        have hk : k < us.length := (List.getElem?_eq_some_iff.mp hp).1
        simp only [itD, wipeE, bYes, w_ok, if_true, w_ok, w_c, w_v, w_op, w_un, w_b, w_nil, w_cons, w_call, w_tup, w_lst, w_dct0, w_fld, w_meth, w_make, w_mt, w_get2, w_tru, w_asB, w_not, w_and, w_or, w_chain, w_andV, w_orV, w_notV, w_if, w_isi, w_pNone, w_pSome, w_sl, w_nx, w_brk, w_cnt, w_drop, w_ret, w_retN, w_sif, w_raise, gmN, gmT, gmAll, w_asg, w_sfld, w_ssub, w_saug, w_for, w_iseq, w_irng1, w_irng2, slotQ_some, opQ_some, opD_some, getQ_some, opB_some, blQ_bl, tyQ_some, inQ_int, evQ_some, ghQ_some, List.getElem?_cons_zero, List.getElem?_cons_succ, List.set_cons_zero, List.set_cons_succ, List.map_cons, List.map_nil, List.cons_append, List.nil_append, List.replicate, List.length_cons, List.length_nil]
        refine ⟨by decide, lstQ_of (ob_push_same _ _) ⟨sz2 (by rw [List.length_map, List.length_take]; omega), ?_⟩⟩
        rw [push_set, take_more hp, List.map_append]; rfl
      · subst p
        rw [List.length_map, List.take_length]
        have bt : bTuple [.ref G'.n] (G'.push (.lst (us.map itD))) = some (.tup (us.map itD), G'.push (.lst (us.map itD))) := b_tuple (ob_push_same _ _)
        simp only [bt, opQ_some, gmN, evQ_some, List.set_cons_succ, List.set_cons_zero]
        have h3 := hl.fr (Fr.push G' (.lst (us.map itD)))
        have ap := m_append (y := .tup [.int day, .int value, .str cause, .tup (us.map itD), .non]) h3.oe (sz2 (by rw [List.length_map]; omega))
        rw [q_Ledger_add_5, w_seq]; simp only [w_ok, w_c, w_v, w_op, w_un, w_b, w_nil, w_cons, w_call, w_tup, w_lst, w_dct0, w_fld, w_meth, w_make, w_mt, w_get2, w_tru, w_asB, w_not, w_and, w_or, w_chain, w_andV, w_orV, w_notV, w_if, w_isi, w_pNone, w_pSome, w_sl, w_nx, w_brk, w_cnt, w_drop, w_ret, w_retN, w_sif, w_raise, gmN, gmT, gmAll, w_asg, w_sfld, w_ssub, w_saug, w_for, w_iseq, w_irng1, w_irng2, slotQ_some, opQ_some, opD_some, getQ_some, opB_some, blQ_bl, tyQ_some, inQ_int, evQ_some, ghQ_some, List.getElem?_cons_zero, List.getElem?_cons_succ, List.set_cons_zero, List.set_cons_succ, List.map_cons, List.map_nil, List.cons_append, List.nil_append, List.replicate, List.length_cons, List.length_nil, o_add, o_sub, o_lt, o_le, o_gt, o_ge, o_les, o_eq, o_ne, o_eqs, o_nes, o_eqb, o_neb, o_is, o_isNot, o_iadd, o_neg, b_int, b_min, b_max, h3.f15, isLst_of h3.oe, ap, true_and]
        refine ⟨by decide, [.int value, .str cause, .tup (us.map itD), .non], ?_, ?_⟩
        · exact h3.entry (day, [.int value, .str cause, .tup (us.map itD), .non])
        · exact (f.push _).set _ (.inl (by unfold foot; simp))
  obtain ⟨d, G', e1, rest, rfl, g1, g2⟩ := Rs.ok_of key
  exact ⟨G', rest, e1, g1, g2⟩
theorem post_ok (h : Led G L a l e r ids lns es) {X : Nat} {us : List It2} (hX : G.ob X = .lst (us.map itD)) (hXn : X < G.n) (hXf : X ∉ foot L a l e r ids) {day value : Int} {cause : Str} (hd : 0 ≤ day ∧ day ≤ 36524) (hv : 0 ≤ value ∧ value ≤ 36524) (hc : cause.length ≤ 60) (hl : ∀ p, es.getLast? = some p → p.1 ≤ day)
    (h2 : 2 ≤ us.length) (h20 : us.length ≤ 20) (hu : ∀ p ∈ us, (1 ≤ p.1 ∧ p.1 ≤ lns.length) ∧ p.2 ≠ 0 ∧ -1000000000 ≤ p.2 ∧ p.2 ≤ 1000000000) (hs : usum us = 0) (hes : es.length < 1000) (hz : ∀ ls ∈ lns, ls.length ≤ 50000) :
    ∃ G' rest, m_Ledger_post [.ref L, .int day, .int value, .str cause, .ref X] G = .ok (.int (es.length + 1)) G' ∧ Led G' L a l e r ids (addAll lns (es.length + 1) day value us) (es ++ [(day, rest)]) ∧ FrX (foot L a l e r ids) G G' := by
  obtain ⟨G1, e1, f1⟩ := lines_ok h hX hXn h2 h20 hu hs
  have h1 := h.fr f1
  obtain ⟨G2, rest, e2, h3, f2⟩ := add_ok h1 ((f1.2 X hXn).trans hX) (Nat.lt_of_lt_of_le hXn f1.1) hXf h20 (fun p hp => (hu p hp).1) hes hz day value cause
  refine ⟨G2, rest, ?_, h3, (f1.x _).trans f2⟩
  apply eq_of_sat
  unfold m_Ledger_post b_Ledger_post
  rw [w_fun]
  refine ⟨rfl, ?_⟩
  rw [q_Ledger_post_1, w_seq]; simp only [w_ok, w_c, w_v, w_op, w_un, w_b, w_nil, w_cons, w_call, w_tup, w_lst, w_dct0, w_fld, w_meth, w_make, w_mt, w_get2, w_tru, w_asB, w_not, w_and, w_or, w_chain, w_andV, w_orV, w_notV, w_if, w_isi, w_pNone, w_pSome, w_sl, w_nx, w_brk, w_cnt, w_drop, w_ret, w_retN, w_sif, w_raise, gmN, gmT, gmAll, w_asg, w_sfld, w_ssub, w_saug, w_for, w_iseq, w_irng1, w_irng2, slotQ_some, opQ_some, opD_some, getQ_some, opB_some, blQ_bl, tyQ_some, inQ_int, evQ_some, ghQ_some, List.getElem?_cons_zero, List.getElem?_cons_succ, List.set_cons_zero, List.set_cons_succ, List.map_cons, List.map_nil, List.cons_append, List.nil_append, List.replicate, List.length_cons, List.length_nil, o_add, o_sub, o_lt, o_le, o_gt, o_ge, o_les, o_eq, o_ne, o_eqs, o_nes, o_eqb, o_neb, o_is, o_isNot, o_iadd, o_neg, b_int, b_min, b_max, insQ_of h.ob, head_ok h hd hv hc hl]
  rw [q_Ledger_post_2, w_seq]; simp only [w_ok, w_c, w_v, w_op, w_un, w_b, w_nil, w_cons, w_call, w_tup, w_lst, w_dct0, w_fld, w_meth, w_make, w_mt, w_get2, w_tru, w_asB, w_not, w_and, w_or, w_chain, w_andV, w_orV, w_notV, w_if, w_isi, w_pNone, w_pSome, w_sl, w_nx, w_brk, w_cnt, w_drop, w_ret, w_retN, w_sif, w_raise, gmN, gmT, gmAll, w_asg, w_sfld, w_ssub, w_saug, w_for, w_iseq, w_irng1, w_irng2, slotQ_some, opQ_some, opD_some, getQ_some, opB_some, blQ_bl, tyQ_some, inQ_int, evQ_some, ghQ_some, List.getElem?_cons_zero, List.getElem?_cons_succ, List.set_cons_zero, List.set_cons_succ, List.map_cons, List.map_nil, List.cons_append, List.nil_append, List.replicate, List.length_cons, List.length_nil, o_add, o_sub, o_lt, o_le, o_gt, o_ge, o_les, o_eq, o_ne, o_eqs, o_nes, o_eqb, o_neb, o_is, o_isNot, o_iadd, o_neg, b_int, b_min, b_max, insQ_of h.ob, e1]
  simp only [insQ_of h1.ob, e2, w_ok, w_c, w_v, w_op, w_un, w_b, w_nil, w_cons, w_call, w_tup, w_lst, w_dct0, w_fld, w_meth, w_make, w_mt, w_get2, w_tru, w_asB, w_not, w_and, w_or, w_chain, w_andV, w_orV, w_notV, w_if, w_isi, w_pNone, w_pSome, w_sl, w_nx, w_brk, w_cnt, w_drop, w_ret, w_retN, w_sif, w_raise, gmN, gmT, gmAll, w_asg, w_sfld, w_ssub, w_saug, w_for, w_iseq, w_irng1, w_irng2, slotQ_some, opQ_some, opD_some, getQ_some, opB_some, blQ_bl, tyQ_some, inQ_int, evQ_some, ghQ_some, List.getElem?_cons_zero, List.getElem?_cons_succ, List.set_cons_zero, List.set_cons_succ, List.map_cons, List.map_nil, List.cons_append, List.nil_append, List.replicate, List.length_cons, List.length_nil, o_add, o_sub, o_lt, o_le, o_gt, o_ge, o_les, o_eq, o_ne, o_eqs, o_nes, o_eqb, o_neb, o_is, o_isNot, o_iadd, o_neg, b_int, b_min, b_max]
  exact ⟨trivial, trivial⟩
end
end Lw
namespace Lw
open PySem PySem.Spec PyProof.Rows L2 Mi
section
variable {b0 : Nat} {G : Gh} {L a l e r M : Nat} {ids mids : List Nat} {lns : List (List Ln)} {es : List (Int × List D)}
theorem span_eq {R : Nat} {row : List Int} (hR : G.ob R = .lst (row.map D.int)) (hlen : row.length = 18) (day : Int) : ∃ f t, m_law_span [.int day, .ref R] G = .ok (.tup [.int f, .int t]) G := by
  have key : (m_law_span [.int day, .ref R] G).sat (fun d G' => ∃ f t, d = .tup [.int f, .int t] ∧ G' = G) nE := by
    unfold m_law_span b_law_span
    rw [w_fun]
    refine ⟨rfl, ?_⟩
    have r13 := row_ix hR 13 (by omega)
    have r14 := row_ix hR 14 (by omega)
    have r15 := row_ix hR 15 (by omega)
    have tup4 : ∀ k : Int, 0 ≤ k ∧ k < 4 → ∃ z, opIx (.tup [.int 0, .int (0 - 1), .int 36524, .int 36525]) (.int k) G = some (.int z, G) := fun k hk => by
      have : k = 0 ∨ k = 1 ∨ k = 2 ∨ k = 3 := by omega
      rcases this with h | h | h | h <;> subst h <;> exact ⟨_, ix_tup rfl⟩
    obtain ⟨z13, e13⟩ := tup4 (rv row 13 % 4) (by omega)
    obtain ⟨z14, e14⟩ := tup4 (rv row 14 % 4) (by omega)
    have s7 : ∀ f t : Int, (sRet (eTup (aCons (eVar 2) (aCons (eVar 3) aNil))) ([some (.int day), some (.ref R), some (.int f), some (.int t)] : Ev) G).sat ⟨fun _ G1 => ∃ f t, D.non = .tup [.int f, .int t] ∧ G1 = G, fun d G' => ∃ f t, d = .tup [.int f, .int t] ∧ G' = G, fun c _ G1 => nE c G1, fun _ _ => False, fun _ _ => False⟩ := fun f t => by
      simp only [w_ok, w_c, w_v, w_op, w_un, w_b, w_nil, w_cons, w_call, w_tup, w_lst, w_dct0, w_fld, w_meth, w_make, w_mt, w_get2, w_tru, w_asB, w_not, w_and, w_or, w_chain, w_andV, w_orV, w_notV, w_if, w_isi, w_pNone, w_pSome, w_sl, w_nx, w_brk, w_cnt, w_drop, w_ret, w_retN, w_sif, w_raise, gmN, gmT, gmAll, w_asg, w_sfld, w_ssub, w_saug, w_for, w_iseq, w_irng1, w_irng2, slotQ_some, opQ_some, opD_some, getQ_some, opB_some, blQ_bl, tyQ_some, inQ_int, evQ_some, ghQ_some, List.getElem?_cons_zero, List.getElem?_cons_succ, List.set_cons_zero, List.set_cons_succ, List.map_cons, List.map_nil, List.cons_append, List.nil_append, List.replicate, List.length_cons, List.length_nil, o_add, o_sub, o_lt, o_le, o_gt, o_ge, o_les, o_eq, o_ne, o_eqs, o_nes, o_eqb, o_neb, o_is, o_isNot, o_iadd, o_neg, b_int, b_min, b_max]
      exact ⟨by decide, f, t, rfl, trivial⟩
    have s6 : ∀ f t : Int, (q_law_span_6 ([some (.int day), some (.ref R), some (.int f), some (.int t)] : Ev) G).sat ⟨fun _ G1 => ∃ f t, D.non = .tup [.int f, .int t] ∧ G1 = G, fun d G' => ∃ f t, d = .tup [.int f, .int t] ∧ G' = G, fun c _ G1 => nE c G1, fun _ _ => False, fun _ _ => False⟩ := fun f t => by
      rw [q_law_span_6, w_seq, w_sif]
      simp only [w_asB, w_op, w_b, w_cons, w_nil, w_v, w_c, List.getElem?_cons_succ, List.getElem?_cons_zero, slotQ_some, r15, opQ_some, b_int, o_mod (show (0 : Int) < 11 by decide), o_eq, blQ_bl]
      split
      · simp only [w_asg, w_op, w_tup, w_b, w_cons, w_nil, w_v, w_c, List.getElem?_cons_succ, List.getElem?_cons_zero, slotQ_some, r14, opQ_some, b_int, o_mod (show (0 : Int) < 4 by decide), o_sub, e14, gmN, evQ_some, List.set_cons_succ, List.set_cons_zero]
        exact ⟨by decide, s7 _ _⟩
      · exact s7 _ _
    have s5 : ∀ f t : Int, (q_law_span_5 ([some (.int day), some (.ref R), some (.int f), some (.int t)] : Ev) G).sat ⟨fun _ G1 => ∃ f t, D.non = .tup [.int f, .int t] ∧ G1 = G, fun d G' => ∃ f t, d = .tup [.int f, .int t] ∧ G' = G, fun c _ G1 => nE c G1, fun _ _ => False, fun _ _ => False⟩ := fun f t => by
      rw [q_law_span_5, w_seq, w_sif]
      simp only [w_asB, w_op, w_b, w_cons, w_nil, w_v, w_c, List.getElem?_cons_succ, List.getElem?_cons_zero, slotQ_some, r15, opQ_some, b_int, o_mod (show (0 : Int) < 11 by decide), o_eq, blQ_bl]
      split
      · simp only [w_asg, w_op, w_tup, w_b, w_cons, w_nil, w_v, w_c, List.getElem?_cons_succ, List.getElem?_cons_zero, slotQ_some, r13, opQ_some, b_int, o_mod (show (0 : Int) < 4 by decide), o_sub, e13, gmN, evQ_some, List.set_cons_succ, List.set_cons_zero]
        exact ⟨by decide, s6 _ _⟩
      · exact s6 _ _
    have s4 : ∀ f t : Int, (q_law_span_4 ([some (.int day), some (.ref R), some (.int f), some (.int t)] : Ev) G).sat ⟨fun _ G1 => ∃ f t, D.non = .tup [.int f, .int t] ∧ G1 = G, fun d G' => ∃ f t, d = .tup [.int f, .int t] ∧ G' = G, fun c _ G1 => nE c G1, fun _ _ => False, fun _ _ => False⟩ := fun f t => by
      rw [q_law_span_4, w_seq]; simp only [w_ok, w_c, w_v, w_op, w_un, w_b, w_nil, w_cons, w_call, w_tup, w_lst, w_dct0, w_fld, w_meth, w_make, w_mt, w_get2, w_tru, w_asB, w_not, w_and, w_or, w_chain, w_andV, w_orV, w_notV, w_if, w_isi, w_pNone, w_pSome, w_sl, w_nx, w_brk, w_cnt, w_drop, w_ret, w_retN, w_sif, w_raise, gmN, gmT, gmAll, w_asg, w_sfld, w_ssub, w_saug, w_for, w_iseq, w_irng1, w_irng2, slotQ_some, opQ_some, opD_some, getQ_some, opB_some, blQ_bl, tyQ_some, inQ_int, evQ_some, ghQ_some, List.getElem?_cons_zero, List.getElem?_cons_succ, List.set_cons_zero, List.set_cons_succ, List.map_cons, List.map_nil, List.cons_append, List.nil_append, List.replicate, List.length_cons, List.length_nil, o_add, o_sub, o_lt, o_le, o_gt, o_ge, o_les, o_eq, o_ne, o_eqs, o_nes, o_eqb, o_neb, o_is, o_isNot, o_iadd, o_neg, b_int, b_min, b_max, r15, r14, o_mod (show (0 : Int) < 7 by decide), o_mod (show (0 : Int) < 36525 by decide)]
      split <;> exact s5 _ _
    rw [q_law_span_1, w_seq]; simp only [w_ok, w_c, w_v, w_op, w_un, w_b, w_nil, w_cons, w_call, w_tup, w_lst, w_dct0, w_fld, w_meth, w_make, w_mt, w_get2, w_tru, w_asB, w_not, w_and, w_or, w_chain, w_andV, w_orV, w_notV, w_if, w_isi, w_pNone, w_pSome, w_sl, w_nx, w_brk, w_cnt, w_drop, w_ret, w_retN, w_sif, w_raise, gmN, gmT, gmAll, w_asg, w_sfld, w_ssub, w_saug, w_for, w_iseq, w_irng1, w_irng2, slotQ_some, opQ_some, opD_some, getQ_some, opB_some, blQ_bl, tyQ_some, inQ_int, evQ_some, ghQ_some, List.getElem?_cons_zero, List.getElem?_cons_succ, List.set_cons_zero, List.set_cons_succ, List.map_cons, List.map_nil, List.cons_append, List.nil_append, List.replicate, List.length_cons, List.length_nil, o_add, o_sub, o_lt, o_le, o_gt, o_ge, o_les, o_eq, o_ne, o_eqs, o_nes, o_eqb, o_neb, o_is, o_isNot, o_iadd, o_neg, b_int, b_min, b_max, r13, o_mod (show (0 : Int) < 9 by decide)]
    rw [q_law_span_2, w_seq]; simp only [w_ok, w_c, w_v, w_op, w_un, w_b, w_nil, w_cons, w_call, w_tup, w_lst, w_dct0, w_fld, w_meth, w_make, w_mt, w_get2, w_tru, w_asB, w_not, w_and, w_or, w_chain, w_andV, w_orV, w_notV, w_if, w_isi, w_pNone, w_pSome, w_sl, w_nx, w_brk, w_cnt, w_drop, w_ret, w_retN, w_sif, w_raise, gmN, gmT, gmAll, w_asg, w_sfld, w_ssub, w_saug, w_for, w_iseq, w_irng1, w_irng2, slotQ_some, opQ_some, opD_some, getQ_some, opB_some, blQ_bl, tyQ_some, inQ_int, evQ_some, ghQ_some, List.getElem?_cons_zero, List.getElem?_cons_succ, List.set_cons_zero, List.set_cons_succ, List.map_cons, List.map_nil, List.cons_append, List.nil_append, List.replicate, List.length_cons, List.length_nil, o_add, o_sub, o_lt, o_le, o_gt, o_ge, o_les, o_eq, o_ne, o_eqs, o_nes, o_eqb, o_neb, o_is, o_isNot, o_iadd, o_neg, b_int, b_min, b_max, r14, o_mod (show (0 : Int) < 9 by decide)]
    rw [q_law_span_3, w_seq]; simp only [w_ok, w_c, w_v, w_op, w_un, w_b, w_nil, w_cons, w_call, w_tup, w_lst, w_dct0, w_fld, w_meth, w_make, w_mt, w_get2, w_tru, w_asB, w_not, w_and, w_or, w_chain, w_andV, w_orV, w_notV, w_if, w_isi, w_pNone, w_pSome, w_sl, w_nx, w_brk, w_cnt, w_drop, w_ret, w_retN, w_sif, w_raise, gmN, gmT, gmAll, w_asg, w_sfld, w_ssub, w_saug, w_for, w_iseq, w_irng1, w_irng2, slotQ_some, opQ_some, opD_some, getQ_some, opB_some, blQ_bl, tyQ_some, inQ_int, evQ_some, ghQ_some, List.getElem?_cons_zero, List.getElem?_cons_succ, List.set_cons_zero, List.set_cons_succ, List.map_cons, List.map_nil, List.cons_append, List.nil_append, List.replicate, List.length_cons, List.length_nil, o_add, o_sub, o_lt, o_le, o_gt, o_ge, o_les, o_eq, o_ne, o_eqs, o_nes, o_eqb, o_neb, o_is, o_isNot, o_iadd, o_neg, b_int, b_min, b_max, r15, r13, o_mod (show (0 : Int) < 7 by decide), o_mod (show (0 : Int) < 36525 by decide)]
    split <;> exact s4 _ _
  obtain ⟨d, G', e1, f, t, rfl, rfl⟩ := Rs.ok_of key
  exact ⟨f, t, e1⟩
theorem c_str (k : Int) (hk : 0 ≤ k ∧ k < 9) (G : Gh) : ∃ s : Str, s.length ≤ 60 ∧ bStr [.int k] G = some (.str (toString k), G) ∧ opAdd (.str "c") (.str (toString k)) G = some (.str s, G) := by
  have : k = 0 ∨ k = 1 ∨ k = 2 ∨ k = 3 ∨ k = 4 ∨ k = 5 ∨ k = 6 ∨ k = 7 ∨ k = 8 := by omega
  rcases this with h | h | h | h | h | h | h | h | h <;> subst h <;> exact ⟨_, by decide +kernel, b_str (by decide +kernel), o_adds (by decide +kernel)⟩
theorem law_post_ok (h : Wd b0 G L a l e r M ids mids lns es) {R : Nat} {row : List Int} (hR : G.ob R = .lst (row.map D.int)) (hRn : R < G.n) (hRf : R ∉ foot L a l e r ids) (hlen : row.length = 18) {day : Int} (hd : 0 ≤ day ∧ day ≤ 36524) (hl : ∀ p, es.getLast? = some p → p.1 ≤ day) (hn : 2 ≤ lns.length) (hes : es.length < 1000) (hz : ∀ ls ∈ lns, ls.length ≤ 50000) :
    ∃ G' rest v us, m_law_post [.ref L, .ref M, .int day, .ref R] G = .ok .non G' ∧ Wd b0 G' L a l e r M ids mids (addAll lns (es.length + 1) day v us) (es ++ [(day, rest)]) ∧ us.length ≤ 6 ∧ FrX (foot L a l e r ids ++ (M :: mids)) G G' := by
  have key : (m_law_post [.ref L, .ref M, .int day, .ref R] G).sat (fun d G' => ∃ (rest : List D) (v : Int) (us : List It2), d = .non ∧ Wd b0 G' L a l e r M ids mids (addAll lns (es.length + 1) day v us) (es ++ [(day, rest)]) ∧ us.length ≤ 6 ∧ FrX (foot L a l e r ids ++ (M :: mids)) G G') nE := by
    unfold m_law_post b_law_post
    rw [w_fun]
    refine ⟨rfl, ?_⟩
    have r1 := row_ix hR 1 (by omega)
    have r2 := row_ix hR 2 (by omega)
    have s8 : ∀ v : Int, (q_law_post_8 ([some (.ref L), some (.ref M), some (.int day), some (.ref R), some (.int v), none, none, none, none, none, none, none] : Ev) G).sat ⟨fun _ G' => ∃ (rest : List D) (v : Int) (us : List It2), True ∧ Wd b0 G' L a l e r M ids mids (addAll lns (es.length + 1) day v us) (es ++ [(day, rest)]) ∧ us.length ≤ 6 ∧ FrX (foot L a l e r ids ++ (M :: mids)) G G', fun d G' => ∃ (rest : List D) (v : Int) (us : List It2), d = .non ∧ Wd b0 G' L a l e r M ids mids (addAll lns (es.length + 1) day v us) (es ++ [(day, rest)]) ∧ us.length ≤ 6 ∧ FrX (foot L a l e r ids ++ (M :: mids)) G G', fun c _ G1 => nE c G1, fun _ _ => False, fun _ _ => False⟩ := fun v0 => by
      rw [q_law_post_8, w_seq]; simp only [w_ok, w_c, w_v, w_op, w_un, w_b, w_nil, w_cons, w_call, w_tup, w_lst, w_dct0, w_fld, w_meth, w_make, w_mt, w_get2, w_tru, w_asB, w_not, w_and, w_or, w_chain, w_andV, w_orV, w_notV, w_if, w_isi, w_pNone, w_pSome, w_sl, w_nx, w_brk, w_cnt, w_drop, w_ret, w_retN, w_sif, w_raise, gmN, gmT, gmAll, w_asg, w_sfld, w_ssub, w_saug, w_for, w_iseq, w_irng1, w_irng2, slotQ_some, opQ_some, opD_some, getQ_some, opB_some, blQ_bl, tyQ_some, inQ_int, evQ_some, ghQ_some, List.getElem?_cons_zero, List.getElem?_cons_succ, List.set_cons_zero, List.set_cons_succ, List.map_cons, List.map_nil, List.cons_append, List.nil_append, List.replicate, List.length_cons, List.length_nil, o_add, o_sub, o_lt, o_le, o_gt, o_ge, o_les, o_eq, o_ne, o_eqs, o_nes, o_eqb, o_neb, o_is, o_isNot, o_iadd, o_neg, b_int, b_min, b_max]
      generalize hv : (if 36524 < (if 0 > v0 then 0 else v0) then (36524 : Int) else (if 0 > v0 then 0 else v0)) = v
      have hv2 : 0 ≤ v ∧ v ≤ 36524 := by
        rw [← hv]
        split <;> split <;> omega
      rw [q_law_post_9, w_seq]; simp only [w_ok, w_c, w_v, w_op, w_un, w_b, w_nil, w_cons, w_call, w_tup, w_lst, w_dct0, w_fld, w_meth, w_make, w_mt, w_get2, w_tru, w_asB, w_not, w_and, w_or, w_chain, w_andV, w_orV, w_notV, w_if, w_isi, w_pNone, w_pSome, w_sl, w_nx, w_brk, w_cnt, w_drop, w_ret, w_retN, w_sif, w_raise, gmN, gmT, gmAll, w_asg, w_sfld, w_ssub, w_saug, w_for, w_iseq, w_irng1, w_irng2, slotQ_some, opQ_some, opD_some, getQ_some, opB_some, blQ_bl, tyQ_some, inQ_int, evQ_some, ghQ_some, List.getElem?_cons_zero, List.getElem?_cons_succ, List.set_cons_zero, List.set_cons_succ, List.map_cons, List.map_nil, List.cons_append, List.nil_append, List.replicate, List.length_cons, List.length_nil, o_add, o_sub, o_lt, o_le, o_gt, o_ge, o_les, o_eq, o_ne, o_eqs, o_nes, o_eqb, o_neb, o_is, o_isNot, o_iadd, o_neg, b_int, b_min, b_max]
      refine ⟨Nat.zero_le _, ?_⟩
      have r3 := row_ix (G := G.push (.lst [])) (R := R) (row := row) (by rw [ob_push_ne _ _ (by omega)]; exact hR) 3 (by omega)
      rw [q_law_post_10, w_seq]; simp only [w_ok, w_c, w_v, w_op, w_un, w_b, w_nil, w_cons, w_call, w_tup, w_lst, w_dct0, w_fld, w_meth, w_make, w_mt, w_get2, w_tru, w_asB, w_not, w_and, w_or, w_chain, w_andV, w_orV, w_notV, w_if, w_isi, w_pNone, w_pSome, w_sl, w_nx, w_brk, w_cnt, w_drop, w_ret, w_retN, w_sif, w_raise, gmN, gmT, gmAll, w_asg, w_sfld, w_ssub, w_saug, w_for, w_iseq, w_irng1, w_irng2, slotQ_some, opQ_some, opD_some, getQ_some, opB_some, blQ_bl, tyQ_some, inQ_int, evQ_some, ghQ_some, List.getElem?_cons_zero, List.getElem?_cons_succ, List.set_cons_zero, List.set_cons_succ, List.map_cons, List.map_nil, List.cons_append, List.nil_append, List.replicate, List.length_cons, List.length_nil, o_add, o_sub, o_lt, o_le, o_gt, o_ge, o_les, o_eq, o_ne, o_eqs, o_nes, o_eqb, o_neb, o_is, o_isNot, o_iadd, o_neg, b_int, b_min, b_max, r3, o_mod (show (0 : Int) < 3 by decide), rng1]
      refine rng_sat (i := 0) (j := 1 + rv row 3 % 3) ⟨by omega⟩ (fun k e0 G' => ∃ (us : List It2) (y6 y7 y8 y9 : Option D), e0 = [some (.ref L), some (.ref M), some (.int day), some (.ref R), some (.int v), some (.ref G.n), y6, y7, y8, y9, none, none] ∧ G' = G.push (.lst (us.map itD)) ∧ us.length = 2 * k ∧ usum us = 0 ∧ ∀ p ∈ us, (1 ≤ p.1 ∧ p.1 ≤ lns.length) ∧ p.2 ≠ 0 ∧ -1000000000 ≤ p.2 ∧ p.2 ≤ 1000000000)
        ⟨[], none, none, none, none, rfl, rfl, rfl, rfl, fun p hp => by cases hp⟩ ?_ ?_
      · rintro k e0 G' hk ⟨us, y6, y7, y8, y9, rfl, rfl, hu1, hu2, hu3⟩
        have hk3 : k < 3 := by omega
        have hRb : (G.push (.lst (us.map itD))).ob R = .lst (row.map D.int) := by rw [ob_push_ne _ _ (by omega)]; exact hR
        have hob : (G.push (.lst (us.map itD))).ob G.n = .lst (us.map itD) := ob_push_same _ _
        have hM : lenD (.ref M) (G.push (.lst (us.map itD))) = some lns.length := (len_lst (h.bn.fr (Fr.push G _)).oh).trans (by rw [List.length_map, h.bn.len])
        have q2 := row_ix hRb 2 (by omega)
        have q4 := row_ix hRb (4 + (0 + k)) (by omega)
        have q7 := row_ix hRb (7 + (0 + k)) (by omega)
        have q10 := row_ix hRb (10 + (0 + k)) (by omega)
        have hln : (0 : Int) < (lns.length : Int) := by omega
        have fin : ∀ (u f s : Int), 1 ≤ u ∧ u ≤ 1000000000 → (1 ≤ f ∧ f ≤ lns.length) → (1 ≤ s ∧ s ≤ lns.length) → ∀ (y6 : Option D), (q_law_post_5 ([some (.ref L), some (.ref M), some (.int day), some (.ref R), some (.int v), some (.ref G.n), y6, some (.int u), some (.int f), some (.int s), none, none] : Ev) (G.push (.lst (us.map itD)))).sat
            ⟨fun e0 G' => ∃ (us : List It2) (y6 y7 y8 y9 : Option D), e0 = [some (.ref L), some (.ref M), some (.int day), some (.ref R), some (.int v), some (.ref G.n), y6, y7, y8, y9, none, none] ∧ G' = G.push (.lst (us.map itD)) ∧ us.length = 2 * (k + 1) ∧ usum us = 0 ∧ ∀ p ∈ us, (1 ≤ p.1 ∧ p.1 ≤ lns.length) ∧ p.2 ≠ 0 ∧ -1000000000 ≤ p.2 ∧ p.2 ≤ 1000000000, fun _ _ => False, fun _ _ _ => False, fun _ _ => False, fun _ _ => False⟩ := fun u f s hu hf hs y6 => by
          have a1 := m_append (y := .tup [.int f, .int u]) hob (sz2 (by rw [List.length_map]; omega))
          rw [q_law_post_5, w_seq]; simp only [w_ok, w_c, w_v, w_op, w_un, w_b, w_nil, w_cons, w_call, w_tup, w_lst, w_dct0, w_fld, w_meth, w_make, w_mt, w_get2, w_tru, w_asB, w_not, w_and, w_or, w_chain, w_andV, w_orV, w_notV, w_if, w_isi, w_pNone, w_pSome, w_sl, w_nx, w_brk, w_cnt, w_drop, w_ret, w_retN, w_sif, w_raise, gmN, gmT, gmAll, w_asg, w_sfld, w_ssub, w_saug, w_for, w_iseq, w_irng1, w_irng2, slotQ_some, opQ_some, opD_some, getQ_some, opB_some, blQ_bl, tyQ_some, inQ_int, evQ_some, ghQ_some, List.getElem?_cons_zero, List.getElem?_cons_succ, List.set_cons_zero, List.set_cons_succ, List.map_cons, List.map_nil, List.cons_append, List.nil_append, List.replicate, List.length_cons, List.length_nil, o_add, o_sub, o_lt, o_le, o_gt, o_ge, o_les, o_eq, o_ne, o_eqs, o_nes, o_eqb, o_neb, o_is, o_isNot, o_iadd, o_neg, b_int, b_min, b_max, isLst_of hob, true_and, a1]
          refine ⟨by decide, ?_⟩
          rw [push_set]
          have e1 : us.map itD ++ [.tup [.int f, .int u]] = (us ++ [(f, u)]).map itD := by rw [List.map_append]; rfl
          rw [e1]
          have hob2 : (G.push (.lst ((us ++ [(f, u)]).map itD))).ob G.n = .lst ((us ++ [(f, u)]).map itD) := ob_push_same _ _
          have a2 := m_append (y := .tup [.int s, .int (0 - u)]) hob2 (sz2 (by rw [List.length_map, List.length_append]; simp; omega))
          simp only [isLst_of hob2, true_and, a2, w_ok, w_c, w_v, w_op, w_un, w_b, w_nil, w_cons, w_call, w_tup, w_lst, w_dct0, w_fld, w_meth, w_make, w_mt, w_get2, w_tru, w_asB, w_not, w_and, w_or, w_chain, w_andV, w_orV, w_notV, w_if, w_isi, w_pNone, w_pSome, w_sl, w_nx, w_brk, w_cnt, w_drop, w_ret, w_retN, w_sif, w_raise, gmN, gmT, gmAll, w_asg, w_sfld, w_ssub, w_saug, w_for, w_iseq, w_irng1, w_irng2, slotQ_some, opQ_some, opD_some, getQ_some, opB_some, blQ_bl, tyQ_some, inQ_int, evQ_some, ghQ_some, List.getElem?_cons_zero, List.getElem?_cons_succ, List.set_cons_zero, List.set_cons_succ, List.map_cons, List.map_nil, List.cons_append, List.nil_append, List.replicate, List.length_cons, List.length_nil, o_add, o_sub, o_lt, o_le, o_gt, o_ge, o_les, o_eq, o_ne, o_eqs, o_nes, o_eqb, o_neb, o_is, o_isNot, o_iadd, o_neg, b_int, b_min, b_max]
          refine ⟨by decide, us ++ [(f, u)] ++ [(s, 0 - u)], _, _, _, _, rfl, ?_, ?_, ?_, ?_⟩
          · rw [push_set, List.map_append (l₁ := us ++ [(f, u)])]; rfl
          · simp [hu1]; omega
          · rw [usum_app, usum_app, hu2]
            show 0 + u + (0 - u) = 0
            omega
          · intro p hp
            rcases List.mem_append.mp hp with hp | hp
            · rcases List.mem_append.mp hp with hp | hp
              · exact hu3 p hp
              · have : p = (f, u) := by simpa using hp
                subst this
                exact ⟨hf, by show u ≠ 0; omega, by show -1000000000 ≤ u; omega, by show u ≤ 1000000000; omega⟩
            · have : p = (s, 0 - u) := by simpa using hp
              subst this
              exact ⟨hs, by show 0 - u ≠ 0; omega, by show -1000000000 ≤ 0 - u; omega, by show 0 - u ≤ 1000000000; omega⟩
        have two : ∀ (u : Int), 1 ≤ u ∧ u ≤ 1000000000 → ∀ (y6 y8 y9 : Option D), (q_law_post_3 ([some (.ref L), some (.ref M), some (.int day), some (.ref R), some (.int v), some (.ref G.n), some (.int (0 + k)), some (.int u), y8, y9, none, none] : Ev) (G.push (.lst (us.map itD)))).sat
            ⟨fun e0 G' => ∃ (us : List It2) (y6 y7 y8 y9 : Option D), e0 = [some (.ref L), some (.ref M), some (.int day), some (.ref R), some (.int v), some (.ref G.n), y6, y7, y8, y9, none, none] ∧ G' = G.push (.lst (us.map itD)) ∧ us.length = 2 * (k + 1) ∧ usum us = 0 ∧ ∀ p ∈ us, (1 ≤ p.1 ∧ p.1 ≤ lns.length) ∧ p.2 ≠ 0 ∧ -1000000000 ≤ p.2 ∧ p.2 ≤ 1000000000, fun _ _ => False, fun _ _ _ => False, fun _ _ => False, fun _ _ => False⟩ := fun u hu y6 y8 y9 => by
          have m7 := Int.emod_lt_of_pos (rv row (7 + (0 + k))) hln
          have m7' := Int.emod_nonneg (rv row (7 + (0 + k))) (Int.ne_of_gt hln)
          have m10 := Int.emod_lt_of_pos (rv row (10 + (0 + k))) hln
          have m10' := Int.emod_nonneg (rv row (10 + (0 + k))) (Int.ne_of_gt hln)
          rw [q_law_post_3, w_seq]; simp only [w_ok, w_c, w_v, w_op, w_un, w_b, w_nil, w_cons, w_call, w_tup, w_lst, w_dct0, w_fld, w_meth, w_make, w_mt, w_get2, w_tru, w_asB, w_not, w_and, w_or, w_chain, w_andV, w_orV, w_notV, w_if, w_isi, w_pNone, w_pSome, w_sl, w_nx, w_brk, w_cnt, w_drop, w_ret, w_retN, w_sif, w_raise, gmN, gmT, gmAll, w_asg, w_sfld, w_ssub, w_saug, w_for, w_iseq, w_irng1, w_irng2, slotQ_some, opQ_some, opD_some, getQ_some, opB_some, blQ_bl, tyQ_some, inQ_int, evQ_some, ghQ_some, List.getElem?_cons_zero, List.getElem?_cons_succ, List.set_cons_zero, List.set_cons_succ, List.map_cons, List.map_nil, List.cons_append, List.nil_append, List.replicate, List.length_cons, List.length_nil, o_add, o_sub, o_lt, o_le, o_gt, o_ge, o_les, o_eq, o_ne, o_eqs, o_nes, o_eqb, o_neb, o_is, o_isNot, o_iadd, o_neg, b_int, b_min, b_max, q7, b_len hM, o_mod hln]
          rw [q_law_post_4, w_seq]; simp only [w_ok, w_c, w_v, w_op, w_un, w_b, w_nil, w_cons, w_call, w_tup, w_lst, w_dct0, w_fld, w_meth, w_make, w_mt, w_get2, w_tru, w_asB, w_not, w_and, w_or, w_chain, w_andV, w_orV, w_notV, w_if, w_isi, w_pNone, w_pSome, w_sl, w_nx, w_brk, w_cnt, w_drop, w_ret, w_retN, w_sif, w_raise, gmN, gmT, gmAll, w_asg, w_sfld, w_ssub, w_saug, w_for, w_iseq, w_irng1, w_irng2, slotQ_some, opQ_some, opD_some, getQ_some, opB_some, blQ_bl, tyQ_some, inQ_int, evQ_some, ghQ_some, List.getElem?_cons_zero, List.getElem?_cons_succ, List.set_cons_zero, List.set_cons_succ, List.map_cons, List.map_nil, List.cons_append, List.nil_append, List.replicate, List.length_cons, List.length_nil, o_add, o_sub, o_lt, o_le, o_gt, o_ge, o_les, o_eq, o_ne, o_eqs, o_nes, o_eqb, o_neb, o_is, o_isNot, o_iadd, o_neg, b_int, b_min, b_max, q10, b_len hM, o_mod hln]
          exact fin u _ _ hu (by omega) (by omega) _
        simp only [w_ok, w_c, w_v, w_op, w_un, w_b, w_nil, w_cons, w_call, w_tup, w_lst, w_dct0, w_fld, w_meth, w_make, w_mt, w_get2, w_tru, w_asB, w_not, w_and, w_or, w_chain, w_andV, w_orV, w_notV, w_if, w_isi, w_pNone, w_pSome, w_sl, w_nx, w_brk, w_cnt, w_drop, w_ret, w_retN, w_sif, w_raise, gmN, gmT, gmAll, w_asg, w_sfld, w_ssub, w_saug, w_for, w_iseq, w_irng1, w_irng2, slotQ_some, opQ_some, opD_some, getQ_some, opB_some, blQ_bl, tyQ_some, inQ_int, evQ_some, ghQ_some, List.getElem?_cons_zero, List.getElem?_cons_succ, List.set_cons_zero, List.set_cons_succ, List.map_cons, List.map_nil, List.cons_append, List.nil_append, List.replicate, List.length_cons, List.length_nil, o_add, o_sub, o_lt, o_le, o_gt, o_ge, o_les, o_eq, o_ne, o_eqs, o_nes, o_eqb, o_neb, o_is, o_isNot, o_iadd, o_neg, b_int, b_min, b_max]
        refine Ro.sat_mono (q := ⟨fun e0 G' => ∃ (us : List It2) (y6 y7 y8 y9 : Option D), e0 = [some (.ref L), some (.ref M), some (.int day), some (.ref R), some (.int v), some (.ref G.n), y6, y7, y8, y9, none, none] ∧ G' = G.push (.lst (us.map itD)) ∧ us.length = 2 * (k + 1) ∧ usum us = 0 ∧ ∀ p ∈ us, (1 ≤ p.1 ∧ p.1 ≤ lns.length) ∧ p.2 ≠ 0 ∧ -1000000000 ≤ p.2 ∧ p.2 ≤ 1000000000, fun _ _ => False, fun _ _ _ => False, fun _ _ => False, fun _ _ => False⟩) ?_ (fun _ _ z => z) (fun _ _ z => z.elim) (fun _ _ _ z => z.elim) (fun _ _ z => z.elim) (fun _ _ z => z.elim)
        rw [q_law_post_1, w_seq]; simp only [w_ok, w_c, w_v, w_op, w_un, w_b, w_nil, w_cons, w_call, w_tup, w_lst, w_dct0, w_fld, w_meth, w_make, w_mt, w_get2, w_tru, w_asB, w_not, w_and, w_or, w_chain, w_andV, w_orV, w_notV, w_if, w_isi, w_pNone, w_pSome, w_sl, w_nx, w_brk, w_cnt, w_drop, w_ret, w_retN, w_sif, w_raise, gmN, gmT, gmAll, w_asg, w_sfld, w_ssub, w_saug, w_for, w_iseq, w_irng1, w_irng2, slotQ_some, opQ_some, opD_some, getQ_some, opB_some, blQ_bl, tyQ_some, inQ_int, evQ_some, ghQ_some, List.getElem?_cons_zero, List.getElem?_cons_succ, List.set_cons_zero, List.set_cons_succ, List.map_cons, List.map_nil, List.cons_append, List.nil_append, List.replicate, List.length_cons, List.length_nil, o_add, o_sub, o_lt, o_le, o_gt, o_ge, o_les, o_eq, o_ne, o_eqs, o_nes, o_eqb, o_neb, o_is, o_isNot, o_iadd, o_neg, b_int, b_min, b_max, q4, o_mod (show (0 : Int) < 500 by decide)]
        rw [q_law_post_2, w_seq]; simp only [w_ok, w_c, w_v, w_op, w_un, w_b, w_nil, w_cons, w_call, w_tup, w_lst, w_dct0, w_fld, w_meth, w_make, w_mt, w_get2, w_tru, w_asB, w_not, w_and, w_or, w_chain, w_andV, w_orV, w_notV, w_if, w_isi, w_pNone, w_pSome, w_sl, w_nx, w_brk, w_cnt, w_drop, w_ret, w_retN, w_sif, w_raise, gmN, gmT, gmAll, w_asg, w_sfld, w_ssub, w_saug, w_for, w_iseq, w_irng1, w_irng2, slotQ_some, opQ_some, opD_some, getQ_some, opB_some, blQ_bl, tyQ_some, inQ_int, evQ_some, ghQ_some, List.getElem?_cons_zero, List.getElem?_cons_succ, List.set_cons_zero, List.set_cons_succ, List.map_cons, List.map_nil, List.cons_append, List.nil_append, List.replicate, List.length_cons, List.length_nil, o_add, o_sub, o_lt, o_le, o_gt, o_ge, o_les, o_eq, o_ne, o_eqs, o_nes, o_eqb, o_neb, o_is, o_isNot, o_iadd, o_neg, b_int, b_min, b_max, q2, q4, o_mod (show (0 : Int) < 5 by decide), o_mod (show (0 : Int) < 1000000000 by decide)]
        split
        · exact two _ (by omega) none _ _
        · exact two _ (by omega) none _ _
      · rintro e0 G' ⟨us, y6, y7, y8, y9, rfl, rfl, hu1, hu2, hu3⟩
        have hn6 : us.length ≤ 6 := by omega
        have hn2 : 2 ≤ us.length := by omega
        have hRb : (G.push (.lst (us.map itD))).ob R = .lst (row.map D.int) := by rw [ob_push_ne _ _ (by omega)]; exact hR
        have hob : (G.push (.lst (us.map itD))).ob G.n = .lst (us.map itD) := ob_push_same _ _
        have q1 := row_ix hRb 1 (by omega)
        obtain ⟨cs, hc1, hc2, hc3⟩ := c_str (rv row 1 % 9) (by omega) (G.push (.lst (us.map itD)))
        have W1 := h.fr ((Fr.push G (.lst (us.map itD))).trans (Fr.push _ (.lst (us.map itD))))
        have lt1 := h.led.lt'
        obtain ⟨G2, rest, e2, l2, f2⟩ := post_ok (value := v) (day := day) (cause := cs) (X := G.n + 1) (us := us) W1.led (ob_push_same (G.push (.lst (us.map itD))) _) (by rw [n_push, n_push]; omega) (fun z => by have := lt1 _ z; omega) hd hv2 hc1 hl hn2 (by omega) hu3 hu2 hes hz
        dsimp only
        rw [q_law_post_11, w_seq]
        simp only [insQ_of (h.led.fr (Fr.push G (.lst (us.map itD)))).ob, q1, o_mod (show (0 : Int) < 9 by decide), hc2, hc3, b_list hob, n_push, e2, w_ok, w_c, w_v, w_op, w_un, w_b, w_nil, w_cons, w_call, w_tup, w_lst, w_dct0, w_fld, w_meth, w_make, w_mt, w_get2, w_tru, w_asB, w_not, w_and, w_or, w_chain, w_andV, w_orV, w_notV, w_if, w_isi, w_pNone, w_pSome, w_sl, w_nx, w_brk, w_cnt, w_drop, w_ret, w_retN, w_sif, w_raise, gmN, gmT, gmAll, w_asg, w_sfld, w_ssub, w_saug, w_for, w_iseq, w_irng1, w_irng2, slotQ_some, opQ_some, opD_some, getQ_some, opB_some, blQ_bl, tyQ_some, inQ_int, evQ_some, ghQ_some, List.getElem?_cons_zero, List.getElem?_cons_succ, List.set_cons_zero, List.set_cons_succ, List.map_cons, List.map_nil, List.cons_append, List.nil_append, List.replicate, List.length_cons, List.length_nil, o_add, o_sub, o_lt, o_le, o_gt, o_ge, o_les, o_eq, o_ne, o_eqs, o_nes, o_eqb, o_neb, o_is, o_isNot, o_iadd, o_neg, b_int, b_min, b_max]
        have dj' : ∀ j ∈ M :: mids, j ∉ foot L a l e r ids := h.dj
        have ob2 : G2.ob G.n = .lst (us.map itD) := by
          rw [f2.2 G.n (by rw [n_push, n_push]; omega) (fun z => by have := lt1 _ z; omega), ob_push_ne _ _ (by rw [n_push]; omega)]; exact hob
        have b2 : Bn G2 M mids lns := W1.bn.frx f2 dj'
        have hG2 : G.n + 2 ≤ G2.n := f2.1
        refine seq_lst_sat ob2 (fun k e0 G' => ∃ (y7 y11 : Option D) , e0 = [some (.ref L), some (.ref M), some (.int day), some (.ref R), some (.int v), some (.ref G.n), y6, y7, y8, y9, some (.int (es.length + 1)), y11] ∧ Bn G' M mids (addAll lns (es.length + 1) day v (us.take k)) ∧ FrX (M :: mids) G2 G' ∧ G'.n = G2.n) ⟨_, none, rfl, by simpa [addAll] using b2, .refl _ _, rfl⟩ ?_ ?_ ?_
        · rintro k e0 G' ⟨y7, y11, rfl, _, f, _⟩
          exact (f.2 G.n (by omega) (fun z => by have := h.bn.lt _ z; omega)).trans ob2
        · rintro k d e0 G' hd' ⟨y7, y11, rfl, bk, f, hn'⟩
          rw [List.getElem?_map] at hd'
          obtain ⟨p, hp, rfl⟩ := Option.map_eq_some_iff.mp hd'
          have hi : 1 ≤ p.1 ∧ p.1 ≤ (addAll lns (es.length + 1) day v (us.take k)).length := by rw [addAll_len]; exact (hu3 p (List.mem_of_getElem? hp)).1
          have hzz : ∀ ls ∈ addAll lns (es.length + 1) day v (us.take k), ls.length ≤ 100000 := fun ls hm => by
            have := addAll_bound (us.take k) lns 50000 hz ls hm
            rw [List.length_take] at this
            omega
          obtain ⟨id, o, hid, ho, ix, ap, bk2⟩ := bk.addI hi hzz (es.length + 1, day, v, p.2)
          have ap : mAppend (.ref id) [.tup [.int (es.length + 1), .int day, .int v, .int p.2]] G' = some (.non, G'.set id (.lst (o ++ [lnD (es.length + 1, day, v, p.2)]))) := ap
          simp only [itD, w_ok, w_c, w_v, w_op, w_un, w_b, w_nil, w_cons, w_call, w_tup, w_lst, w_dct0, w_fld, w_meth, w_make, w_mt, w_get2, w_tru, w_asB, w_not, w_and, w_or, w_chain, w_andV, w_orV, w_notV, w_if, w_isi, w_pNone, w_pSome, w_sl, w_nx, w_brk, w_cnt, w_drop, w_ret, w_retN, w_sif, w_raise, gmN, gmT, gmAll, w_asg, w_sfld, w_ssub, w_saug, w_for, w_iseq, w_irng1, w_irng2, slotQ_some, opQ_some, opD_some, getQ_some, opB_some, blQ_bl, tyQ_some, inQ_int, evQ_some, ghQ_some, List.getElem?_cons_zero, List.getElem?_cons_succ, List.set_cons_zero, List.set_cons_succ, List.map_cons, List.map_nil, List.cons_append, List.nil_append, List.replicate, List.length_cons, List.length_nil, o_add, o_sub, o_lt, o_le, o_gt, o_ge, o_les, o_eq, o_ne, o_eqs, o_nes, o_eqb, o_neb, o_is, o_isNot, o_iadd, o_neg, b_int, b_min, b_max, ix, isLst_of ho, ap, true_and]
          refine ⟨by decide, _, _, rfl, ?_, f.set _ (.inl (List.mem_cons_of_mem _ hid)), hn'⟩
          rw [addAll_more hp]
          exact bk2
        · rintro e0 G' ⟨y7, y11, rfl, bk, f, hn'⟩
          rw [List.length_map, List.take_length] at bk
          refine ⟨rest, v, us, trivial, ⟨l2.frx f fun j hj z => h.dj j z hj, bk, h.dj, h.lo, h.lo2⟩, hn6, ⟨by omega, fun j hj hnj => ?_⟩⟩
          have hj1 : j ∉ M :: mids := fun z => hnj (List.mem_append_right _ z)
          have hj2 : j ∉ foot L a l e r ids := fun z => hnj (List.mem_append_left _ z)
          rw [f.2 j (by omega) hj1, f2.2 j (by rw [n_push, n_push]; omega) hj2, ob_push_ne _ _ (by rw [n_push]; omega), ob_push_ne _ _ (by omega)]
    rw [q_law_post_6, w_seq]; simp only [w_ok, w_c, w_v, w_op, w_un, w_b, w_nil, w_cons, w_call, w_tup, w_lst, w_dct0, w_fld, w_meth, w_make, w_mt, w_get2, w_tru, w_asB, w_not, w_and, w_or, w_chain, w_andV, w_orV, w_notV, w_if, w_isi, w_pNone, w_pSome, w_sl, w_nx, w_brk, w_cnt, w_drop, w_ret, w_retN, w_sif, w_raise, gmN, gmT, gmAll, w_asg, w_sfld, w_ssub, w_saug, w_for, w_iseq, w_irng1, w_irng2, slotQ_some, opQ_some, opD_some, getQ_some, opB_some, blQ_bl, tyQ_some, inQ_int, evQ_some, ghQ_some, List.getElem?_cons_zero, List.getElem?_cons_succ, List.set_cons_zero, List.set_cons_succ, List.map_cons, List.map_nil, List.cons_append, List.nil_append, List.replicate, List.length_cons, List.length_nil, o_add, o_sub, o_lt, o_le, o_gt, o_ge, o_les, o_eq, o_ne, o_eqs, o_nes, o_eqb, o_neb, o_is, o_isNot, o_iadd, o_neg, b_int, b_min, b_max, r1, o_mod (show (0 : Int) < 7 by decide)]
    rw [q_law_post_7, w_seq]; simp only [w_ok, w_c, w_v, w_op, w_un, w_b, w_nil, w_cons, w_call, w_tup, w_lst, w_dct0, w_fld, w_meth, w_make, w_mt, w_get2, w_tru, w_asB, w_not, w_and, w_or, w_chain, w_andV, w_orV, w_notV, w_if, w_isi, w_pNone, w_pSome, w_sl, w_nx, w_brk, w_cnt, w_drop, w_ret, w_retN, w_sif, w_raise, gmN, gmT, gmAll, w_asg, w_sfld, w_ssub, w_saug, w_for, w_iseq, w_irng1, w_irng2, slotQ_some, opQ_some, opD_some, getQ_some, opB_some, blQ_bl, tyQ_some, inQ_int, evQ_some, ghQ_some, List.getElem?_cons_zero, List.getElem?_cons_succ, List.set_cons_zero, List.set_cons_succ, List.map_cons, List.map_nil, List.cons_append, List.nil_append, List.replicate, List.length_cons, List.length_nil, o_add, o_sub, o_lt, o_le, o_gt, o_ge, o_les, o_eq, o_ne, o_eqs, o_nes, o_eqb, o_neb, o_is, o_isNot, o_iadd, o_neg, b_int, b_min, b_max, r2, r1, o_mod (show (0 : Int) < 4 by decide), o_mod (show (0 : Int) < 36525 by decide)]
    split <;> exact s8 _
  obtain ⟨d, G', e1, rest, v, us, rfl, g1, g2, g3⟩ := Rs.ok_of key
  exact ⟨G', rest, v, us, e1, g1, g2, g3⟩
end
end Lw
namespace Lw
open PySem PySem.Spec PyProof.Rows L2 Mi
theorem addLn_all {P : List Ln → Prop} {lns : List (List Ln)} {i : Nat} {x : Ln} (h : ∀ ls ∈ lns, P ls) (hx : ∀ ls, P ls → P (ls ++ [x])) : ∀ ls ∈ addLn lns i x, P ls := by
  intro ls hm
  obtain ⟨j, hj⟩ := List.mem_iff_getElem?.mp hm
  unfold addLn at hj
  rw [List.getElem?_modify] at hj
  cases e : lns[j]? with
  | none => rw [e] at hj; cases hj
  | some l0 =>
    rw [e] at hj
    have h0 := h l0 (List.mem_of_getElem? e)
    simp at hj
    subst hj
    split
    · exact hx _ h0
    · exact h0
theorem addAll_srt {no d v : Int} : ∀ (us : List It2) (lns : List (List Ln)), (∀ ls ∈ lns, Srt ls d) → ∀ ls ∈ addAll lns no d v us, Srt ls d
  | [], lns, h => h
  | p :: us, lns, h => addAll_srt us (addLn lns (p.1 - 1).toNat (no, d, v, p.2)) (addLn_all (P := fun ls => Srt ls d) h fun ls hl => hl.app rfl)
section
variable {b0 : Nat} {G : Gh} {L a l e r M : Nat} {ids mids : List Nat} {lns : List (List Ln)} {es : List (Int × List D)}
/-- the law's answer and the ledger's agree -/
theorem agree (hz : ∀ ls ∈ lns, ls.length ≤ 1000) (hp : ∀ ls ∈ lns, ls.Pairwise (fun x y => x.2.1 ≤ y.2.1)) (i f t : Int) :
    (∃ nm : Str, ∀ G, Wd b0 G L a l e r M ids mids lns es → m_law_due [.ref M, .int i, .int f, .int t] G = .ok (.str nm) G ∧ m_law_ask [.ref L, .int i, .int f, .int t] G = .ok (.str nm) (G.push (.lst [.str nm]))) ∨
    (∃ (o b : Int) (rs : List Rw5), rs.length ≤ 1000 ∧ ∀ G, Wd b0 G L a l e r M ids mids lns es →
      (∃ id G', m_law_due [.ref M, .int i, .int f, .int t] G = .ok (.tup [.int o, .ref id, .int b]) G' ∧ Fr G G' ∧ G.n ≤ id ∧ id < G'.n ∧ G'.ob id = .lst (rs.map rwD)) ∧
      (∃ id G', m_law_ask [.ref L, .int i, .int f, .int t] G = .ok (.tup [.int o, .ref id, .int b]) G' ∧ Fr G G' ∧ G.n ≤ id ∧ id < G'.n ∧ G'.ob id = .lst (rs.map rwD))) := by
  by_cases hi : 1 ≤ i ∧ i ≤ lns.length
  · by_cases hs : 0 ≤ f ∧ f ≤ t ∧ t ≤ 36524
    · refine .inr ?_
      obtain ⟨ls, hls⟩ : ∃ ls, lns[(i - 1).toNat]? = some ls := ⟨_, List.getElem?_eq_getElem (show (i - 1).toNat < lns.length by omega)⟩
      have hm := List.mem_of_getElem? hls
      have hq := in_eq hs.2.1 ls.length ls rfl (hp ls hm)
      refine ⟨opn ls f, (inL ls f t).1, (inL ls f t).2, ?_, fun G W => ⟨?_, ?_⟩⟩
      · have := stL_len f t ls (opn ls f, [])
        have h2 := hz ls hm
        unfold inL
        simp at this
        omega
      · obtain ⟨ls1, id, G', q1, q2, q3, q4, q5, q6⟩ := due_ok W.bn hi hs hz
        rw [hls] at q1; cases q1
        exact ⟨id, G', q2, q3, q4, q5, q6⟩
      · obtain ⟨ls1, id, G', q1, q2, q3, q4, q5, q6⟩ := stat_ok W.led hi hs hz
        rw [hls] at q1; cases q1
        rw [hq] at q2 q6
        exact ⟨id, G', ask_ok i f t q2, q3, q4, q5, q6⟩
    · exact .inl ⟨"BadDay", fun G W => ⟨due_day W.bn hi hs, ask_er i f t 2 "BadDay" (.inl ⟨rfl, rfl⟩) (stat_er2 W.led hi hs)⟩⟩
  · exact .inl ⟨"Missing", fun G W => ⟨due_miss W.bn hi, ask_er i f t 3 "Missing" (.inr ⟨rfl, rfl⟩) (stat_er3 W.led hi)⟩⟩
theorem ask_stage (W : Wd b0 G L a l e r M ids mids lns es) (hz : ∀ ls ∈ lns, ls.length ≤ 1000) (hp : ∀ ls ∈ lns, ls.Pairwise (fun x y => x.2.1 ≤ y.2.1)) (acc f t : Int) (s0 s1 s4 s5 s6 s7 y11 y12 : Option D) :
    (q_law_7 ([s0, s1, some (.ref L), some (.ref M), s4, s5, s6, s7, some (.int acc), some (.int f), some (.int t), y11, y12] : Ev) G).sat
      ⟨fun e' G' => ∃ y11 y12 : Option D, e' = [s0, s1, some (.ref L), some (.ref M), s4, s5, s6, s7, some (.int acc), some (.int f), some (.int t), y11, y12] ∧ Fr G G', fun _ _ => False, fun _ _ _ => False, fun _ _ => False, fun _ _ => False⟩ := by
  rcases agree (b0 := b0) (L := L) (a := a) (l := l) (e := e) (r := r) (M := M) (ids := ids) (mids := mids) (es := es) hz hp acc f t with ⟨nm, hag⟩ | ⟨o, b, rs, hrs, hag⟩
  · obtain ⟨h1, h2⟩ := hag G W
    have F := Fr.push G (.lst [.str nm])
    obtain ⟨_, h4⟩ := hag _ (W.fr F)
    rw [q_law_7, w_seq]; simp only [w_ok, w_c, w_v, w_op, w_un, w_b, w_nil, w_cons, w_call, w_tup, w_lst, w_dct0, w_fld, w_meth, w_make, w_mt, w_get2, w_tru, w_asB, w_not, w_and, w_or, w_chain, w_andV, w_orV, w_notV, w_if, w_isi, w_pNone, w_pSome, w_sl, w_nx, w_brk, w_cnt, w_drop, w_ret, w_retN, w_sif, w_raise, gmN, gmT, gmAll, w_asg, w_sfld, w_ssub, w_saug, w_for, w_iseq, w_irng1, w_irng2, slotQ_some, opQ_some, opD_some, getQ_some, opB_some, blQ_bl, tyQ_some, inQ_int, evQ_some, ghQ_some, List.getElem?_cons_zero, List.getElem?_cons_succ, List.set_cons_zero, List.set_cons_succ, List.map_cons, List.map_nil, List.cons_append, List.nil_append, List.replicate, List.length_cons, List.length_nil, o_add, o_sub, o_lt, o_le, o_gt, o_ge, o_les, o_eq, o_ne, o_eqs, o_nes, o_eqb, o_neb, o_is, o_isNot, o_iadd, o_neg, b_int, b_min, b_max, h1]
    rw [q_law_8, w_seq]; simp only [w_ok, w_c, w_v, w_op, w_un, w_b, w_nil, w_cons, w_call, w_tup, w_lst, w_dct0, w_fld, w_meth, w_make, w_mt, w_get2, w_tru, w_asB, w_not, w_and, w_or, w_chain, w_andV, w_orV, w_notV, w_if, w_isi, w_pNone, w_pSome, w_sl, w_nx, w_brk, w_cnt, w_drop, w_ret, w_retN, w_sif, w_raise, gmN, gmT, gmAll, w_asg, w_sfld, w_ssub, w_saug, w_for, w_iseq, w_irng1, w_irng2, slotQ_some, opQ_some, opD_some, getQ_some, opB_some, blQ_bl, tyQ_some, inQ_int, evQ_some, ghQ_some, List.getElem?_cons_zero, List.getElem?_cons_succ, List.set_cons_zero, List.set_cons_succ, List.map_cons, List.map_nil, List.cons_append, List.nil_append, List.replicate, List.length_cons, List.length_nil, o_add, o_sub, o_lt, o_le, o_gt, o_ge, o_les, o_eq, o_ne, o_eqs, o_nes, o_eqb, o_neb, o_is, o_isNot, o_iadd, o_neg, b_int, b_min, b_max, h2]
    rw [q_law_9, w_seq]; simp only [w_ok, w_c, w_v, w_op, w_un, w_b, w_nil, w_cons, w_call, w_tup, w_lst, w_dct0, w_fld, w_meth, w_make, w_mt, w_get2, w_tru, w_asB, w_not, w_and, w_or, w_chain, w_andV, w_orV, w_notV, w_if, w_isi, w_pNone, w_pSome, w_sl, w_nx, w_brk, w_cnt, w_drop, w_ret, w_retN, w_sif, w_raise, gmN, gmT, gmAll, w_asg, w_sfld, w_ssub, w_saug, w_for, w_iseq, w_irng1, w_irng2, slotQ_some, opQ_some, opD_some, getQ_some, opB_some, blQ_bl, tyQ_some, inQ_int, evQ_some, ghQ_some, List.getElem?_cons_zero, List.getElem?_cons_succ, List.set_cons_zero, List.set_cons_succ, List.map_cons, List.map_nil, List.cons_append, List.nil_append, List.replicate, List.length_cons, List.length_nil, o_add, o_sub, o_lt, o_le, o_gt, o_ge, o_les, o_eq, o_ne, o_eqs, o_nes, o_eqb, o_neb, o_is, o_isNot, o_iadd, o_neg, b_int, b_min, b_max, same_str 7 nm, truD, Bool.not_true, Bool.false_eq_true, if_false]
    rw [q_law_10, w_seq]
    simp only [tyD, tyQ_some, isTy, Nat.reduceBEq, Bool.false_and, Bool.or_false, truD, opB_some, Bool.false_eq_true, if_false, h4, same_str 7 nm, Bool.not_true, w_ok, w_c, w_v, w_op, w_un, w_b, w_nil, w_cons, w_call, w_tup, w_lst, w_dct0, w_fld, w_meth, w_make, w_mt, w_get2, w_tru, w_asB, w_not, w_and, w_or, w_chain, w_andV, w_orV, w_notV, w_if, w_isi, w_pNone, w_pSome, w_sl, w_nx, w_brk, w_cnt, w_drop, w_ret, w_retN, w_sif, w_raise, gmN, gmT, gmAll, w_asg, w_sfld, w_ssub, w_saug, w_for, w_iseq, w_irng1, w_irng2, slotQ_some, opQ_some, opD_some, getQ_some, opB_some, blQ_bl, tyQ_some, inQ_int, evQ_some, ghQ_some, List.getElem?_cons_zero, List.getElem?_cons_succ, List.set_cons_zero, List.set_cons_succ, List.map_cons, List.map_nil, List.cons_append, List.nil_append, List.replicate, List.length_cons, List.length_nil]
    exact ⟨_, _, rfl, F.trans (Fr.push _ _)⟩
  · obtain ⟨⟨p1, G1, d1, f1, a1, a2, a3⟩, _⟩ := hag G W
    have W1 := W.fr f1
    obtain ⟨_, p2, G2, d2, f2, c1, c2, c3⟩ := hag G1 W1
    have o1 : G2.ob p1 = .lst (rs.map rwD) := (f2.2 p1 a2).trans a3
    have sm := same_res 4 o b rs p2 p1 G2 c3 o1 (by omega)
    have ix : opIx (.tup [.int o, .ref p2, .int b]) (.int 1) G2 = some (.ref p2, G2) := ix_tup rfl
    have lo := isLst_of c3
    have ap : ∀ z : D, mAppend (.ref p2) [z] G2 = some (.non, G2.set p2 (.lst (rs.map rwD ++ [z]))) := fun z => m_append c3 (sz2 (by rw [List.length_map]; omega))
    have F14 : Fr G1 (G2.set p2 (.lst (rs.map rwD ++ [.tup [.int 0, .int 0, .int 0, .int 0, .int 0]]))) := f2.set _ c1
    have W4 := W1.fr F14
    obtain ⟨_, p5, G5, d5, f5, k1, k2, k3⟩ := hag _ W4
    have o5 : G5.ob p1 = .lst (rs.map rwD) := (f5.2 p1 (by rw [n_set]; have := f2.1; omega)).trans ((F14.2 p1 a2).trans a3)
    have sm5 := same_res 4 o b rs p5 p1 G5 k3 o5 (by omega)
    rw [q_law_7, w_seq]; simp only [w_ok, w_c, w_v, w_op, w_un, w_b, w_nil, w_cons, w_call, w_tup, w_lst, w_dct0, w_fld, w_meth, w_make, w_mt, w_get2, w_tru, w_asB, w_not, w_and, w_or, w_chain, w_andV, w_orV, w_notV, w_if, w_isi, w_pNone, w_pSome, w_sl, w_nx, w_brk, w_cnt, w_drop, w_ret, w_retN, w_sif, w_raise, gmN, gmT, gmAll, w_asg, w_sfld, w_ssub, w_saug, w_for, w_iseq, w_irng1, w_irng2, slotQ_some, opQ_some, opD_some, getQ_some, opB_some, blQ_bl, tyQ_some, inQ_int, evQ_some, ghQ_some, List.getElem?_cons_zero, List.getElem?_cons_succ, List.set_cons_zero, List.set_cons_succ, List.map_cons, List.map_nil, List.cons_append, List.nil_append, List.replicate, List.length_cons, List.length_nil, o_add, o_sub, o_lt, o_le, o_gt, o_ge, o_les, o_eq, o_ne, o_eqs, o_nes, o_eqb, o_neb, o_is, o_isNot, o_iadd, o_neg, b_int, b_min, b_max, d1]
    rw [q_law_8, w_seq]; simp only [w_ok, w_c, w_v, w_op, w_un, w_b, w_nil, w_cons, w_call, w_tup, w_lst, w_dct0, w_fld, w_meth, w_make, w_mt, w_get2, w_tru, w_asB, w_not, w_and, w_or, w_chain, w_andV, w_orV, w_notV, w_if, w_isi, w_pNone, w_pSome, w_sl, w_nx, w_brk, w_cnt, w_drop, w_ret, w_retN, w_sif, w_raise, gmN, gmT, gmAll, w_asg, w_sfld, w_ssub, w_saug, w_for, w_iseq, w_irng1, w_irng2, slotQ_some, opQ_some, opD_some, getQ_some, opB_some, blQ_bl, tyQ_some, inQ_int, evQ_some, ghQ_some, List.getElem?_cons_zero, List.getElem?_cons_succ, List.set_cons_zero, List.set_cons_succ, List.map_cons, List.map_nil, List.cons_append, List.nil_append, List.replicate, List.length_cons, List.length_nil, o_add, o_sub, o_lt, o_le, o_gt, o_ge, o_les, o_eq, o_ne, o_eqs, o_nes, o_eqb, o_neb, o_is, o_isNot, o_iadd, o_neg, b_int, b_min, b_max, d2]
    rw [q_law_9, w_seq]; simp only [w_ok, w_c, w_v, w_op, w_un, w_b, w_nil, w_cons, w_call, w_tup, w_lst, w_dct0, w_fld, w_meth, w_make, w_mt, w_get2, w_tru, w_asB, w_not, w_and, w_or, w_chain, w_andV, w_orV, w_notV, w_if, w_isi, w_pNone, w_pSome, w_sl, w_nx, w_brk, w_cnt, w_drop, w_ret, w_retN, w_sif, w_raise, gmN, gmT, gmAll, w_asg, w_sfld, w_ssub, w_saug, w_for, w_iseq, w_irng1, w_irng2, slotQ_some, opQ_some, opD_some, getQ_some, opB_some, blQ_bl, tyQ_some, inQ_int, evQ_some, ghQ_some, List.getElem?_cons_zero, List.getElem?_cons_succ, List.set_cons_zero, List.set_cons_succ, List.map_cons, List.map_nil, List.cons_append, List.nil_append, List.replicate, List.length_cons, List.length_nil, o_add, o_sub, o_lt, o_le, o_gt, o_ge, o_les, o_eq, o_ne, o_eqs, o_nes, o_eqb, o_neb, o_is, o_isNot, o_iadd, o_neg, b_int, b_min, b_max, sm, truD, Bool.not_true, Bool.false_eq_true, if_false]
    rw [q_law_10, w_seq]
    simp only [tyD, tyQ_some, isTy, Nat.reduceBEq, Bool.true_or, truD, opB_some, if_true, ix, lo, true_and, ap, w_ok, w_c, w_v, w_op, w_un, w_b, w_nil, w_cons, w_call, w_tup, w_lst, w_dct0, w_fld, w_meth, w_make, w_mt, w_get2, w_tru, w_asB, w_not, w_and, w_or, w_chain, w_andV, w_orV, w_notV, w_if, w_isi, w_pNone, w_pSome, w_sl, w_nx, w_brk, w_cnt, w_drop, w_ret, w_retN, w_sif, w_raise, gmN, gmT, gmAll, w_asg, w_sfld, w_ssub, w_saug, w_for, w_iseq, w_irng1, w_irng2, slotQ_some, opQ_some, opD_some, getQ_some, opB_some, blQ_bl, tyQ_some, inQ_int, evQ_some, ghQ_some, List.getElem?_cons_zero, List.getElem?_cons_succ, List.set_cons_zero, List.set_cons_succ, List.map_cons, List.map_nil, List.cons_append, List.nil_append, List.replicate, List.length_cons, List.length_nil]
    refine ⟨by decide, ?_⟩
    simp only [d5, sm5, truD, Bool.not_true, Bool.false_eq_true, if_false, w_ok, w_c, w_v, w_op, w_un, w_b, w_nil, w_cons, w_call, w_tup, w_lst, w_dct0, w_fld, w_meth, w_make, w_mt, w_get2, w_tru, w_asB, w_not, w_and, w_or, w_chain, w_andV, w_orV, w_notV, w_if, w_isi, w_pNone, w_pSome, w_sl, w_nx, w_brk, w_cnt, w_drop, w_ret, w_retN, w_sif, w_raise, gmN, gmT, gmAll, w_asg, w_sfld, w_ssub, w_saug, w_for, w_iseq, w_irng1, w_irng2, slotQ_some, opQ_some, opD_some, getQ_some, opB_some, blQ_bl, tyQ_some, inQ_int, evQ_some, ghQ_some, List.getElem?_cons_zero, List.getElem?_cons_succ, List.set_cons_zero, List.set_cons_succ, List.map_cons, List.map_nil, List.cons_append, List.nil_append, List.replicate, List.length_cons, List.length_nil]
    exact ⟨_, _, rfl, (f1.trans F14).trans f5⟩
/-- one cell -/
theorem cell_ok (W : Wd b0 G L a l e r M ids mids lns es) (hz : ∀ ls ∈ lns, ls.length ≤ 900) {day cell : Int} (hsr : ∀ ls ∈ lns, Srt ls day) (hn : 2 ≤ lns.length) (hes : es.length < 1000) (hd : 0 ≤ day ∧ day ≤ 36524) (hl : ∀ p, es.getLast? = some p → p.1 ≤ day) (s0 s1 s5 y7 y8 y9 y10 y11 y12 : Option D) :
    (q_law_1 ([s0, s1, some (.ref L), some (.ref M), some (.int day), s5, some (.int cell), y7, y8, y9, y10, y11, y12] : Ev) G).sat
      ⟨fun e' G' => ∃ (lns' : List (List Ln)) (p : Int × List D) (day' : Int) (y7 y8 y9 y10 y11 y12 : Option D), e' = [s0, s1, some (.ref L), some (.ref M), some (.int day'), s5, some (.int cell), y7, y8, y9, y10, y11, y12] ∧ Wd b0 G' L a l e r M ids mids lns' (es ++ [p]) ∧ (∀ m, (∀ ls ∈ lns, ls.length ≤ m) → ∀ ls ∈ lns', ls.length ≤ m + 6) ∧ (∀ ls ∈ lns', Srt ls day') ∧ day ≤ day' ∧ lns'.length = lns.length ∧ (0 ≤ day' ∧ day' ≤ 36524) ∧ p.1 ≤ day' ∧ FrX (foot L a l e r ids ++ (M :: mids)) G G',
        fun _ _ => False, fun _ _ _ => False, fun _ _ => False, fun _ _ => False⟩ := by
  obtain ⟨row, hr1, hr2⟩ := numbers_eq cell 18 (by decide) G
  have hr2 : m_law_numbers [.int cell, .int 18] G = .ok (.ref G.n) (G.push (.lst (row.map D.int))) := hr2
  rw [q_law_1, w_seq]; simp only [w_ok, w_c, w_v, w_op, w_un, w_b, w_nil, w_cons, w_call, w_tup, w_lst, w_dct0, w_fld, w_meth, w_make, w_mt, w_get2, w_tru, w_asB, w_not, w_and, w_or, w_chain, w_andV, w_orV, w_notV, w_if, w_isi, w_pNone, w_pSome, w_sl, w_nx, w_brk, w_cnt, w_drop, w_ret, w_retN, w_sif, w_raise, gmN, gmT, gmAll, w_asg, w_sfld, w_ssub, w_saug, w_for, w_iseq, w_irng1, w_irng2, slotQ_some, opQ_some, opD_some, getQ_some, opB_some, blQ_bl, tyQ_some, inQ_int, evQ_some, ghQ_some, List.getElem?_cons_zero, List.getElem?_cons_succ, List.set_cons_zero, List.set_cons_succ, List.map_cons, List.map_nil, List.cons_append, List.nil_append, List.replicate, List.length_cons, List.length_nil, o_add, o_sub, o_lt, o_le, o_gt, o_ge, o_les, o_eq, o_ne, o_eqs, o_nes, o_eqb, o_neb, o_is, o_isNot, o_iadd, o_neg, b_int, b_min, b_max, hr2]
  have hR : (G.push (.lst (row.map D.int))).ob G.n = .lst (row.map D.int) := ob_push_same _ _
  have W1 := W.fr (Fr.push G (.lst (row.map D.int)))
  have ltf := W.led.lt'
  have r0 := row_ix hR 0 (by omega)
  have i4 : ∃ z, (z = 0 ∨ z = 1 ∨ z = 3) ∧ opIx (.tup [.int 0, .int 0, .int 1, .int 3]) (.int (rv row 0 % 4)) (G.push (.lst (row.map D.int))) = some (.int z, G.push (.lst (row.map D.int))) := by
    have : rv row 0 % 4 = 0 ∨ rv row 0 % 4 = 1 ∨ rv row 0 % 4 = 2 ∨ rv row 0 % 4 = 3 := by omega
    rcases this with h | h | h | h <;> rw [h]
    · exact ⟨0, .inl rfl, ix_tup rfl⟩
    · exact ⟨0, .inl rfl, ix_tup rfl⟩
    · exact ⟨1, .inr (.inl rfl), ix_tup rfl⟩
    · exact ⟨3, .inr (.inr rfl), ix_tup rfl⟩
  obtain ⟨z, hz3, iz⟩ := i4
  rw [q_law_2, w_seq]; simp only [w_ok, w_c, w_v, w_op, w_un, w_b, w_nil, w_cons, w_call, w_tup, w_lst, w_dct0, w_fld, w_meth, w_make, w_mt, w_get2, w_tru, w_asB, w_not, w_and, w_or, w_chain, w_andV, w_orV, w_notV, w_if, w_isi, w_pNone, w_pSome, w_sl, w_nx, w_brk, w_cnt, w_drop, w_ret, w_retN, w_sif, w_raise, gmN, gmT, gmAll, w_asg, w_sfld, w_ssub, w_saug, w_for, w_iseq, w_irng1, w_irng2, slotQ_some, opQ_some, opD_some, getQ_some, opB_some, blQ_bl, tyQ_some, inQ_int, evQ_some, ghQ_some, List.getElem?_cons_zero, List.getElem?_cons_succ, List.set_cons_zero, List.set_cons_succ, List.map_cons, List.map_nil, List.cons_append, List.nil_append, List.replicate, List.length_cons, List.length_nil, o_add, o_sub, o_lt, o_le, o_gt, o_ge, o_les, o_eq, o_ne, o_eqs, o_nes, o_eqb, o_neb, o_is, o_isNot, o_iadd, o_neg, b_int, b_min, b_max, r0, o_mod (show (0 : Int) < 4 by decide), iz]
  refine ⟨by decide, ?_⟩
  generalize hday : (if 36524 < day + z then (36524 : Int) else day + z) = day'
  have hd' : 0 ≤ day' ∧ day' ≤ 36524 ∧ day ≤ day' := by
    rw [← hday]
    split <;> omega
  obtain ⟨G2, rest, v, us, e2, W2, hu6, f2⟩ := law_post_ok W1 hR (by rw [n_push]; omega) (fun q => by have := ltf _ q; omega) hr1 (day := day') ⟨hd'.1, hd'.2.1⟩ (fun p hp => by have := hl p hp; omega) hn hes (fun ls hm => by have := hz ls hm; omega)
  rw [q_law_3, w_seq]; simp only [w_ok, w_c, w_v, w_op, w_un, w_b, w_nil, w_cons, w_call, w_tup, w_lst, w_dct0, w_fld, w_meth, w_make, w_mt, w_get2, w_tru, w_asB, w_not, w_and, w_or, w_chain, w_andV, w_orV, w_notV, w_if, w_isi, w_pNone, w_pSome, w_sl, w_nx, w_brk, w_cnt, w_drop, w_ret, w_retN, w_sif, w_raise, gmN, gmT, gmAll, w_asg, w_sfld, w_ssub, w_saug, w_for, w_iseq, w_irng1, w_irng2, slotQ_some, opQ_some, opD_some, getQ_some, opB_some, blQ_bl, tyQ_some, inQ_int, evQ_some, ghQ_some, List.getElem?_cons_zero, List.getElem?_cons_succ, List.set_cons_zero, List.set_cons_succ, List.map_cons, List.map_nil, List.cons_append, List.nil_append, List.replicate, List.length_cons, List.length_nil, o_add, o_sub, o_lt, o_le, o_gt, o_ge, o_les, o_eq, o_ne, o_eqs, o_nes, o_eqb, o_neb, o_is, o_isNot, o_iadd, o_neg, b_int, b_min, b_max, e2]
  have hR2 : G2.ob G.n = .lst (row.map D.int) := (f2.2 G.n (by rw [n_push]; omega) (fun q => by
    rcases List.mem_append.mp q with q | q
    · have := ltf _ q; omega
    · have := W.bn.lt _ q; omega)).trans hR
  have hz2 : ∀ ls ∈ addAll lns (es.length + 1) day' v us, ls.length ≤ 1000 := fun ls hm => by
    have := addAll_bound us lns 900 hz ls hm
    omega
  have hsr2 : ∀ ls ∈ addAll lns (es.length + 1) day' v us, Srt ls day' := addAll_srt us lns fun ls hm => (hsr ls hm).mono hd'.2.2
  have hM : lenD (.ref M) G2 = some lns.length := (len_lst W2.bn.oh).trans (by rw [List.length_map, W2.bn.len, addAll_len])
  have hln : (0 : Int) < (lns.length : Int) := by omega
  have r16 := row_ix hR2 16 (by omega)
  have r17 := row_ix hR2 17 (by omega)
  have fin : ∀ (acc f t : Int), (q_law_7 ([s0, s1, some (.ref L), some (.ref M), some (.int day'), s5, some (.int cell), some (.ref G.n), some (.int acc), some (.int f), some (.int t), y11, y12] : Ev) G2).sat
      ⟨fun e' G' => ∃ (lns' : List (List Ln)) (p : Int × List D) (day' : Int) (y7 y8 y9 y10 y11 y12 : Option D), e' = [s0, s1, some (.ref L), some (.ref M), some (.int day'), s5, some (.int cell), y7, y8, y9, y10, y11, y12] ∧ Wd b0 G' L a l e r M ids mids lns' (es ++ [p]) ∧ (∀ m, (∀ ls ∈ lns, ls.length ≤ m) → ∀ ls ∈ lns', ls.length ≤ m + 6) ∧ (∀ ls ∈ lns', Srt ls day') ∧ day ≤ day' ∧ lns'.length = lns.length ∧ (0 ≤ day' ∧ day' ≤ 36524) ∧ p.1 ≤ day' ∧ FrX (foot L a l e r ids ++ (M :: mids)) G G',
        fun _ _ => False, fun _ _ _ => False, fun _ _ => False, fun _ _ => False⟩ := fun acc f t => by
    refine Ro.sat_mono (ask_stage W2 hz2 (fun ls hm => (hsr2 ls hm).1) acc f t s0 s1 _ _ _ _ y11 y12) ?_ (fun _ _ z => z) (fun _ _ _ z => z) (fun _ _ z => z) (fun _ _ z => z)
    rintro e' G' ⟨z11, z12, rfl, F⟩
    refine ⟨_, (day', rest), day', _, _, _, _, _, _, rfl, W2.fr F, fun m hm ls hls => ?_, hsr2, hd'.2.2, addAll_len us lns, ⟨hd'.1, hd'.2.1⟩, Int.le_refl _, (((Fr.push G _).x _).trans f2).trans (F.x _)⟩
    have := addAll_bound us lns m hm ls hls
    omega
  have s9 : ∀ (acc : Int), (q_law_6 ([s0, s1, some (.ref L), some (.ref M), some (.int day'), s5, some (.int cell), some (.ref G.n), some (.int acc), y9, y10, y11, y12] : Ev) G2).sat
      ⟨fun e' G' => ∃ (lns' : List (List Ln)) (p : Int × List D) (day' : Int) (y7 y8 y9 y10 y11 y12 : Option D), e' = [s0, s1, some (.ref L), some (.ref M), some (.int day'), s5, some (.int cell), y7, y8, y9, y10, y11, y12] ∧ Wd b0 G' L a l e r M ids mids lns' (es ++ [p]) ∧ (∀ m, (∀ ls ∈ lns, ls.length ≤ m) → ∀ ls ∈ lns', ls.length ≤ m + 6) ∧ (∀ ls ∈ lns', Srt ls day') ∧ day ≤ day' ∧ lns'.length = lns.length ∧ (0 ≤ day' ∧ day' ≤ 36524) ∧ p.1 ≤ day' ∧ FrX (foot L a l e r ids ++ (M :: mids)) G G',
        fun _ _ => False, fun _ _ _ => False, fun _ _ => False, fun _ _ => False⟩ := fun acc => by
    obtain ⟨f, t, es'⟩ := span_eq hR2 hr1 day'
    rw [q_law_6, w_seq]; simp only [w_ok, w_c, w_v, w_op, w_un, w_b, w_nil, w_cons, w_call, w_tup, w_lst, w_dct0, w_fld, w_meth, w_make, w_mt, w_get2, w_tru, w_asB, w_not, w_and, w_or, w_chain, w_andV, w_orV, w_notV, w_if, w_isi, w_pNone, w_pSome, w_sl, w_nx, w_brk, w_cnt, w_drop, w_ret, w_retN, w_sif, w_raise, gmN, gmT, gmAll, w_asg, w_sfld, w_ssub, w_saug, w_for, w_iseq, w_irng1, w_irng2, slotQ_some, opQ_some, opD_some, getQ_some, opB_some, blQ_bl, tyQ_some, inQ_int, evQ_some, ghQ_some, List.getElem?_cons_zero, List.getElem?_cons_succ, List.set_cons_zero, List.set_cons_succ, List.map_cons, List.map_nil, List.cons_append, List.nil_append, List.replicate, List.length_cons, List.length_nil, o_add, o_sub, o_lt, o_le, o_gt, o_ge, o_les, o_eq, o_ne, o_eqs, o_nes, o_eqb, o_neb, o_is, o_isNot, o_iadd, o_neg, b_int, b_min, b_max, es']
    exact fin _ _ _
  have i3 : ∃ z, opIx (.tup [.int 0, .int (lns.length + 1), .int (0 - 1)]) (.int (rv row 16 % 3)) G2 = some (.int z, G2) := by
    have : rv row 16 % 3 = 0 ∨ rv row 16 % 3 = 1 ∨ rv row 16 % 3 = 2 := by omega
    rcases this with h | h | h <;> rw [h] <;> exact ⟨_, ix_tup rfl⟩
  obtain ⟨z3, iz3⟩ := i3
  rw [q_law_4, w_seq]; simp only [w_ok, w_c, w_v, w_op, w_un, w_b, w_nil, w_cons, w_call, w_tup, w_lst, w_dct0, w_fld, w_meth, w_make, w_mt, w_get2, w_tru, w_asB, w_not, w_and, w_or, w_chain, w_andV, w_orV, w_notV, w_if, w_isi, w_pNone, w_pSome, w_sl, w_nx, w_brk, w_cnt, w_drop, w_ret, w_retN, w_sif, w_raise, gmN, gmT, gmAll, w_asg, w_sfld, w_ssub, w_saug, w_for, w_iseq, w_irng1, w_irng2, slotQ_some, opQ_some, opD_some, getQ_some, opB_some, blQ_bl, tyQ_some, inQ_int, evQ_some, ghQ_some, List.getElem?_cons_zero, List.getElem?_cons_succ, List.set_cons_zero, List.set_cons_succ, List.map_cons, List.map_nil, List.cons_append, List.nil_append, List.replicate, List.length_cons, List.length_nil, o_add, o_sub, o_lt, o_le, o_gt, o_ge, o_les, o_eq, o_ne, o_eqs, o_nes, o_eqb, o_neb, o_is, o_isNot, o_iadd, o_neg, b_int, b_min, b_max, r16, b_len hM, o_mod hln]
  rw [q_law_5, w_seq]; simp only [w_ok, w_c, w_v, w_op, w_un, w_b, w_nil, w_cons, w_call, w_tup, w_lst, w_dct0, w_fld, w_meth, w_make, w_mt, w_get2, w_tru, w_asB, w_not, w_and, w_or, w_chain, w_andV, w_orV, w_notV, w_if, w_isi, w_pNone, w_pSome, w_sl, w_nx, w_brk, w_cnt, w_drop, w_ret, w_retN, w_sif, w_raise, gmN, gmT, gmAll, w_asg, w_sfld, w_ssub, w_saug, w_for, w_iseq, w_irng1, w_irng2, slotQ_some, opQ_some, opD_some, getQ_some, opB_some, blQ_bl, tyQ_some, inQ_int, evQ_some, ghQ_some, List.getElem?_cons_zero, List.getElem?_cons_succ, List.set_cons_zero, List.set_cons_succ, List.map_cons, List.map_nil, List.cons_append, List.nil_append, List.replicate, List.length_cons, List.length_nil, o_add, o_sub, o_lt, o_le, o_gt, o_ge, o_les, o_eq, o_ne, o_eqs, o_nes, o_eqb, o_neb, o_is, o_isNot, o_iadd, o_neg, b_int, b_min, b_max, r17, r16, b_len hM, o_mod (show (0 : Int) < 9 by decide), o_mod (show (0 : Int) < 3 by decide), iz3]
  split
  · exact ⟨by decide, s9 _⟩
  · exact s9 _
end
theorem law_ok (ns : List Int) (hl : ns.length ≤ 63) (hb : ∀ z ∈ ns, PySem.Builtin.Int.intBits z ≤ 1048576) : ∃ G, m_law [.rol (ns.map D.int)] ⟨0, fun _ => .lst []⟩ = .ok (.bl true) G := by
  generalize hG0 : (⟨0, fun _ => .lst []⟩ : Gh) = G0
  have key : (m_law [.rol (ns.map D.int)] G0).sat (fun d G' => d = .bl true) nE := by
    unfold m_law b_law
    rw [w_fun]
    refine ⟨rfl, ?_⟩
    have s16 : ∀ (R : Nat) (row : List Int) (G : Gh), G.ob R = .lst (row.map D.int) → R < G.n → row.length = 4 → (q_law_13 ([some (.rol (ns.map D.int)), some (.ref R), none, none, none, none, none, none, none, none, none, none, none] : Ev) G).sat ⟨fun _ G1 => False, fun d G1 => d = .bl true, fun _ _ _ => False, fun _ _ => False, fun _ _ => False⟩ := fun R row G hR hRn hlen => by
      obtain ⟨L, a, l, e, r, M, ids, mids, n, G1, e1, W, hn1, hn2, F⟩ := books_ok hR hRn hlen
      rw [q_law_13, w_seq]; simp only [w_ok, w_c, w_v, w_op, w_un, w_b, w_nil, w_cons, w_call, w_tup, w_lst, w_dct0, w_fld, w_meth, w_make, w_mt, w_get2, w_tru, w_asB, w_not, w_and, w_or, w_chain, w_andV, w_orV, w_notV, w_if, w_isi, w_pNone, w_pSome, w_sl, w_nx, w_brk, w_cnt, w_drop, w_ret, w_retN, w_sif, w_raise, gmN, gmT, gmAll, w_asg, w_sfld, w_ssub, w_saug, w_for, w_iseq, w_irng1, w_irng2, slotQ_some, opQ_some, opD_some, getQ_some, opB_some, blQ_bl, tyQ_some, inQ_int, evQ_some, ghQ_some, List.getElem?_cons_zero, List.getElem?_cons_succ, List.set_cons_zero, List.set_cons_succ, List.map_cons, List.map_nil, List.cons_append, List.nil_append, List.replicate, List.length_cons, List.length_nil, o_add, o_sub, o_lt, o_le, o_gt, o_ge, o_les, o_eq, o_ne, o_eqs, o_nes, o_eqb, o_neb, o_is, o_isNot, o_iadd, o_neg, b_int, b_min, b_max, e1]
      have hR1 : G1.ob R = .lst (row.map D.int) := (F.2 R hRn).trans hR
      have r2 := row_ix hR1 2 (by omega)
      have r3 := row_ix hR1 3 (by omega)
      have i4 : ∃ z, (0 ≤ z ∧ z ≤ 36524) ∧ opIx (.tup [.int 0, .int 36500, .int (rv row 2 % 36525), .int (rv row 2 % 36525)]) (.int (rv row 3 % 4)) G1 = some (.int z, G1) := by
        have : rv row 3 % 4 = 0 ∨ rv row 3 % 4 = 1 ∨ rv row 3 % 4 = 2 ∨ rv row 3 % 4 = 3 := by omega
        rcases this with h | h | h | h <;> rw [h]
        · exact ⟨0, by omega, ix_tup rfl⟩
        · exact ⟨36500, by omega, ix_tup rfl⟩
        · exact ⟨rv row 2 % 36525, by omega, ix_tup rfl⟩
        · exact ⟨rv row 2 % 36525, by omega, ix_tup rfl⟩
      obtain ⟨day, hd, iz⟩ := i4
      rw [q_law_14, w_seq]; simp only [w_ok, w_c, w_v, w_op, w_un, w_b, w_nil, w_cons, w_call, w_tup, w_lst, w_dct0, w_fld, w_meth, w_make, w_mt, w_get2, w_tru, w_asB, w_not, w_and, w_or, w_chain, w_andV, w_orV, w_notV, w_if, w_isi, w_pNone, w_pSome, w_sl, w_nx, w_brk, w_cnt, w_drop, w_ret, w_retN, w_sif, w_raise, gmN, gmT, gmAll, w_asg, w_sfld, w_ssub, w_saug, w_for, w_iseq, w_irng1, w_irng2, slotQ_some, opQ_some, opD_some, getQ_some, opB_some, blQ_bl, tyQ_some, inQ_int, evQ_some, ghQ_some, List.getElem?_cons_zero, List.getElem?_cons_succ, List.set_cons_zero, List.set_cons_succ, List.map_cons, List.map_nil, List.cons_append, List.nil_append, List.replicate, List.length_cons, List.length_nil, o_add, o_sub, o_lt, o_le, o_gt, o_ge, o_les, o_eq, o_ne, o_eqs, o_nes, o_eqb, o_neb, o_is, o_isNot, o_iadd, o_neg, b_int, b_min, b_max, r2, r3, o_mod (show (0 : Int) < 36525 by decide), o_mod (show (0 : Int) < 4 by decide), iz]
      refine ⟨by decide, ?_⟩
      rw [q_law_15, w_seq]; simp only [w_ok, w_c, w_v, w_op, w_un, w_b, w_nil, w_cons, w_call, w_tup, w_lst, w_dct0, w_fld, w_meth, w_make, w_mt, w_get2, w_tru, w_asB, w_not, w_and, w_or, w_chain, w_andV, w_orV, w_notV, w_if, w_isi, w_pNone, w_pSome, w_sl, w_nx, w_brk, w_cnt, w_drop, w_ret, w_retN, w_sif, w_raise, gmN, gmT, gmAll, w_asg, w_sfld, w_ssub, w_saug, w_for, w_iseq, w_irng1, w_irng2, slotQ_some, opQ_some, opD_some, getQ_some, opB_some, blQ_bl, tyQ_some, inQ_int, evQ_some, ghQ_some, List.getElem?_cons_zero, List.getElem?_cons_succ, List.set_cons_zero, List.set_cons_succ, List.map_cons, List.map_nil, List.cons_append, List.nil_append, List.replicate, List.length_cons, List.length_nil, o_add, o_sub, o_lt, o_le, o_gt, o_ge, o_les, o_eq, o_ne, o_eqs, o_nes, o_eqb, o_neb, o_is, o_isNot, o_iadd, o_neg, b_int, b_min, b_max]
      rw [q_law_16, w_seq, w_for, w_iseq]
      simp only [w_op, w_lst, w_cons, w_nil, w_c, w_sl, w_v, w_pNone, w_pSome, List.getElem?_cons_succ, List.getElem?_cons_zero, slotQ_some, inQ_int, List.length_cons, List.length_nil]
      refine ⟨by decide, ?_⟩
      have sl : slD (.rol (ns.map D.int)) none (some 63) (G1.push (.lst [.int 5])) = some (.ref (G1.n + 1), (G1.push (.lst [.int 5])).push (.lst (ns.map D.int))) := by
        unfold slD
        dsimp only
        have e : Mi.cutD (ns.map D.int) none (some 63) = ns.map D.int := by
          unfold Mi.cutD
          rw [HT.sIx_none, show (some (63 : Int)) = some ((63 : Nat) : Int) from rfl, HT.sIx_nat, List.length_map, Nat.min_eq_right hl, List.drop_zero]
          exact List.take_of_length_le (by rw [List.length_map]; exact Nat.le_refl _)
        rw [e]; rfl
      rw [sl, opQ_some]
      have ad : opAdd (.ref G1.n) (.ref (G1.n + 1)) ((G1.push (.lst [.int 5])).push (.lst (ns.map D.int))) = some (.ref (G1.n + 2), ((G1.push (.lst [.int 5])).push (.lst (ns.map D.int))).push (.lst ((5 :: ns).map D.int))) := by
        have o1 : ((G1.push (.lst [.int 5])).push (.lst (ns.map D.int))).ob G1.n = .lst [.int 5] := by rw [ob_push_ne _ _ (by rw [n_push]; omega), ob_push_same]
        have o2 : ((G1.push (.lst [.int 5])).push (.lst (ns.map D.int))).ob (G1.n + 1) = .lst (ns.map D.int) := ob_push_same (G1.push (.lst [.int 5])) _
        unfold opAdd
        dsimp only
        rw [o1, o2]
        dsimp only
        rw [if_pos (sz1 (by simp; omega))]
        rfl
      rw [ad, opQ_some]
      have W1 := W.fr (((Fr.push G1 (.lst [.int 5])).trans (Fr.push _ (.lst (ns.map D.int)))).trans (Fr.push _ (.lst ((5 :: ns).map D.int))))
      have ltf := W.led.lt'
      have ltb := W.bn.lt
      refine seq_lst_sat (l := G1.n + 2) (xs := (5 :: ns).map D.int) (ob_push_same ((G1.push (.lst [.int 5])).push (.lst (ns.map D.int))) _) (fun k e0 G' => ∃ (lns : List (List Ln)) (es : List (Int × List D)) (day' : Int) (y6 y7 y8 y9 y10 y11 y12 : Option D), e0 = [some (.rol (ns.map D.int)), some (.ref R), some (.ref L), some (.ref M), some (.int day'), some (.int day), y6, y7, y8, y9, y10, y11, y12] ∧ (∀ ls ∈ lns, Srt ls day') ∧ Wd G.n G' L a l e r M ids mids lns es ∧ es.length = k ∧ (∀ ls ∈ lns, ls.length ≤ 6 * k) ∧ lns.length = n ∧ (0 ≤ day' ∧ day' ≤ 36524) ∧ (∀ p, es.getLast? = some p → p.1 ≤ day') ∧ G'.ob (G1.n + 2) = .lst ((5 :: ns).map D.int) ∧ G1.n + 3 ≤ G'.n)
        ⟨_, [], day, none, none, none, none, none, none, none, rfl, fun ls hm => ?_, W1, rfl, fun ls hm => ?_, List.length_replicate .., hd, fun p hp => by simp at hp, ob_push_same ((G1.push (.lst [.int 5])).push (.lst (ns.map D.int))) _, Nat.le_refl _⟩ ?_ ?_ ?_
      · rw [List.eq_of_mem_replicate hm]; exact ⟨List.Pairwise.nil, fun x hx => by cases hx⟩
      · rw [List.eq_of_mem_replicate hm]; exact Nat.zero_le _
      · rintro k e0 G' ⟨_, _, _, _, _, _, _, _, _, _, _, _, _, _, _, _, _, _, ho, _⟩
        exact ho
      · rintro k d e0 G' hd' ⟨lns, es, day', y6, y7, y8, y9, y10, y11, y12, rfl, hsr, W, h1, h2, h3, h4, h5, ho, hn⟩
        have hk : k < 64 := by
          have := (List.getElem?_eq_some_iff.mp hd').1
          simp at this
          omega
        rw [List.getElem?_map] at hd'
        obtain ⟨x, hx, rfl⟩ := Option.map_eq_some_iff.mp hd'
        simp only [gmN, evQ_some, List.set_cons_succ, List.set_cons_zero]
        refine Ro.sat_mono (cell_ok W (fun ls hm => by have := h2 ls hm; omega) hsr (by omega) (by omega) h4 h5 _ _ _ y7 y8 y9 y10 y11 y12) ?_ (fun _ _ z => z.elim) (fun _ _ _ z => z) (fun _ _ z => z.elim) (fun _ _ z => z.elim)
        rintro e' G2 ⟨lns', p, day2, z7, z8, z9, z10, z11, z12, rfl, W', g1, gs, _, g2, g3, g4, f2⟩
        refine ⟨lns', es ++ [p], day2, _, _, _, _, _, _, _, rfl, gs, W', by simp [h1], fun ls hm => ?_, by rw [g2, h3], g3, fun q hq => ?_, ?_, Nat.le_trans hn f2.1⟩
        · have := g1 _ h2 ls hm
          omega
        · have : q = p := by simpa using hq.symm
          rw [this]; exact g4
        · refine (f2.2 _ (by omega) fun q => ?_).trans ho
          rcases List.mem_append.mp q with q | q
          · have := ltf _ q; omega
          · have := ltb _ q; omega
      · rintro e0 G' ⟨lns, es, day', y6, y7, y8, y9, y10, y11, y12, rfl, hsr, W, h1, h2, h3, h4, h5, ho, hn⟩
        have hM : lenD (.ref M) G' = some lns.length := (len_lst W.bn.oh).trans (by rw [List.length_map, W.bn.len])
        have hk : ((5 :: ns).map D.int).length ≤ 64 := by simp; omega
        dsimp only
        rw [q_law_17, w_seq]; simp only [w_ok, w_c, w_v, w_op, w_un, w_b, w_nil, w_cons, w_call, w_tup, w_lst, w_dct0, w_fld, w_meth, w_make, w_mt, w_get2, w_tru, w_asB, w_not, w_and, w_or, w_chain, w_andV, w_orV, w_notV, w_if, w_isi, w_pNone, w_pSome, w_sl, w_nx, w_brk, w_cnt, w_drop, w_ret, w_retN, w_sif, w_raise, gmN, gmT, gmAll, w_asg, w_sfld, w_ssub, w_saug, w_for, w_iseq, w_irng1, w_irng2, slotQ_some, opQ_some, opD_some, getQ_some, opB_some, blQ_bl, tyQ_some, inQ_int, evQ_some, ghQ_some, List.getElem?_cons_zero, List.getElem?_cons_succ, List.set_cons_zero, List.set_cons_succ, List.map_cons, List.map_nil, List.cons_append, List.nil_append, List.replicate, List.length_cons, List.length_nil, o_add, o_sub, o_lt, o_le, o_gt, o_ge, o_les, o_eq, o_ne, o_eqs, o_nes, o_eqb, o_neb, o_is, o_isNot, o_iadd, o_neg, b_int, b_min, b_max, b_len hM, rng2]
        refine rng_sat ⟨by omega⟩ (fun k e1 G1 => ∃ (y8 : Option D), e1 = [some (.rol (ns.map D.int)), some (.ref R), some (.ref L), some (.ref M), some (.int day'), some (.int day), y6, y7, y8, y9, y10, y11, y12] ∧ Wd G.n G1 L a l e r M ids mids lns es) ⟨_, rfl, W⟩ ?_ ?_
        · rintro k e1 G1 hk1 ⟨y8, rfl, W⟩
          rcases agree (b0 := G.n) (L := L) (a := a) (l := l) (e := e) (r := r) (M := M) (ids := ids) (mids := mids) (es := es) (fun ls hm => by have := h2 ls hm; omega) (fun ls hm => (hsr ls hm).1) (1 + (k : Int)) day day' with ⟨nm, hag⟩ | ⟨o, b, rs, hrs, hag⟩
          · obtain ⟨_, q2⟩ := hag G1 W
            have F := Fr.push G1 (.lst [.str nm])
            obtain ⟨q3, _⟩ := hag _ (W.fr F)
            simp only [w_ok, w_c, w_v, w_op, w_un, w_b, w_nil, w_cons, w_call, w_tup, w_lst, w_dct0, w_fld, w_meth, w_make, w_mt, w_get2, w_tru, w_asB, w_not, w_and, w_or, w_chain, w_andV, w_orV, w_notV, w_if, w_isi, w_pNone, w_pSome, w_sl, w_nx, w_brk, w_cnt, w_drop, w_ret, w_retN, w_sif, w_raise, gmN, gmT, gmAll, w_asg, w_sfld, w_ssub, w_saug, w_for, w_iseq, w_irng1, w_irng2, slotQ_some, opQ_some, opD_some, getQ_some, opB_some, blQ_bl, tyQ_some, inQ_int, evQ_some, ghQ_some, List.getElem?_cons_zero, List.getElem?_cons_succ, List.set_cons_zero, List.set_cons_succ, List.map_cons, List.map_nil, List.cons_append, List.nil_append, List.replicate, List.length_cons, List.length_nil, o_add, o_sub, o_lt, o_le, o_gt, o_ge, o_les, o_eq, o_ne, o_eqs, o_nes, o_eqb, o_neb, o_is, o_isNot, o_iadd, o_neg, b_int, b_min, b_max, q2, q3, same_str 7 nm, truD, Bool.not_true, Bool.false_eq_true, if_false]
            exact ⟨_, rfl, W.fr F⟩
          · obtain ⟨_, ⟨p2, G2, d2, f2, c1, c2, c3⟩⟩ := hag G1 W
            have W2 := W.fr f2
            obtain ⟨⟨p3, G3, d3, f3, a1, a2, a3⟩, _⟩ := hag G2 W2
            have o2 : G3.ob p2 = .lst (rs.map rwD) := (f3.2 p2 c2).trans c3
            have sm := same_res 4 o b rs p2 p3 G3 o2 a3 (by omega)
            simp only [w_ok, w_c, w_v, w_op, w_un, w_b, w_nil, w_cons, w_call, w_tup, w_lst, w_dct0, w_fld, w_meth, w_make, w_mt, w_get2, w_tru, w_asB, w_not, w_and, w_or, w_chain, w_andV, w_orV, w_notV, w_if, w_isi, w_pNone, w_pSome, w_sl, w_nx, w_brk, w_cnt, w_drop, w_ret, w_retN, w_sif, w_raise, gmN, gmT, gmAll, w_asg, w_sfld, w_ssub, w_saug, w_for, w_iseq, w_irng1, w_irng2, slotQ_some, opQ_some, opD_some, getQ_some, opB_some, blQ_bl, tyQ_some, inQ_int, evQ_some, ghQ_some, List.getElem?_cons_zero, List.getElem?_cons_succ, List.set_cons_zero, List.set_cons_succ, List.map_cons, List.map_nil, List.cons_append, List.nil_append, List.replicate, List.length_cons, List.length_nil, o_add, o_sub, o_lt, o_le, o_gt, o_ge, o_les, o_eq, o_ne, o_eqs, o_nes, o_eqb, o_neb, o_is, o_isNot, o_iadd, o_neg, b_int, b_min, b_max, d2, d3, sm, truD, Bool.not_true, Bool.false_eq_true, if_false]
            exact ⟨_, rfl, W2.fr f3⟩
        · rintro e1 G1 ⟨y8, rfl, _⟩
          try dsimp only
          try simp only [w_ok, w_c, w_v, w_op, w_un, w_b, w_nil, w_cons, w_call, w_tup, w_lst, w_dct0, w_fld, w_meth, w_make, w_mt, w_get2, w_tru, w_asB, w_not, w_and, w_or, w_chain, w_andV, w_orV, w_notV, w_if, w_isi, w_pNone, w_pSome, w_sl, w_nx, w_brk, w_cnt, w_drop, w_ret, w_retN, w_sif, w_raise, gmN, gmT, gmAll, w_asg, w_sfld, w_ssub, w_saug, w_for, w_iseq, w_irng1, w_irng2, slotQ_some, opQ_some, opD_some, getQ_some, opB_some, blQ_bl, tyQ_some, inQ_int, evQ_some, ghQ_some, List.getElem?_cons_zero, List.getElem?_cons_succ, List.set_cons_zero, List.set_cons_succ, List.map_cons, List.map_nil, List.cons_append, List.nil_append, List.replicate, List.length_cons, List.length_nil]
    obtain ⟨row, hr1, hr2⟩ := numbers_eq 0 4 (by decide) G0
    have hr2 : m_law_numbers [.int 0, .int 4] G0 = .ok (.ref G0.n) (G0.push (.lst (row.map D.int))) := hr2
    rw [q_law_11, w_seq]; simp only [w_ok, w_c, w_v, w_op, w_un, w_b, w_nil, w_cons, w_call, w_tup, w_lst, w_dct0, w_fld, w_meth, w_make, w_mt, w_get2, w_tru, w_asB, w_not, w_and, w_or, w_chain, w_andV, w_orV, w_notV, w_if, w_isi, w_pNone, w_pSome, w_sl, w_nx, w_brk, w_cnt, w_drop, w_ret, w_retN, w_sif, w_raise, gmN, gmT, gmAll, w_asg, w_sfld, w_ssub, w_saug, w_for, w_iseq, w_irng1, w_irng2, slotQ_some, opQ_some, opD_some, getQ_some, opB_some, blQ_bl, tyQ_some, inQ_int, evQ_some, ghQ_some, List.getElem?_cons_zero, List.getElem?_cons_succ, List.set_cons_zero, List.set_cons_succ, List.map_cons, List.map_nil, List.cons_append, List.nil_append, List.replicate, List.length_cons, List.length_nil, o_add, o_sub, o_lt, o_le, o_gt, o_ge, o_les, o_eq, o_ne, o_eqs, o_nes, o_eqb, o_neb, o_is, o_isNot, o_iadd, o_neg, b_int, b_min, b_max, hr2]
    have hlr : lenD (.rol (ns.map D.int)) (G0.push (.lst (row.map D.int))) = some ns.length := by unfold lenD; dsimp only; rw [List.length_map]
    have post : ∀ (R : Nat) (row : List Int) (G : Gh), G.ob R = .lst (row.map D.int) → R < G.n → row.length = 4 → (q_law_13 ([some (.rol (ns.map D.int)), some (.ref R), none, none, none, none, none, none, none, none, none, none, none] : Ev) G).sat ⟨fun _ G1 => D.non = .bl true, fun d G1 => d = .bl true, fun c _ G1 => nE c G1, fun _ _ => False, fun _ _ => False⟩ := fun R row G h1 h2 h3 =>
      Ro.sat_mono (s16 R row G h1 h2 h3) (fun _ _ z => z.elim) (fun _ _ z => z) (fun _ _ _ z => z.elim) (fun _ _ z => z) (fun _ _ z => z)
    rw [q_law_12, w_seq, w_sif]
    simp only [w_asB, w_op, w_b, w_cons, w_nil, w_v, w_c, List.getElem?_cons_succ, List.getElem?_cons_zero, slotQ_some, b_len hlr, opQ_some, o_gt, blQ_bl]
    split
    · rename_i hpos
      have hpos : 0 < ns.length := by
        have := of_decide_eq_true hpos
        omega
      have ixr : opIx (.rol (ns.map D.int)) (.int 0) (G0.push (.lst (row.map D.int))) = some (.int ns[0], G0.push (.lst (row.map D.int))) := ix_rol (by
        have z := atI_nat (xs := ns.map D.int) (k := 0) (by rw [List.length_map]; exact hpos)
        rw [List.getElem_map] at z
        exact z)
      obtain ⟨row2, hs1, hs2⟩ := numbers_eq ns[0] 4 (by decide) (G0.push (.lst (row.map D.int)))
      have hs2 : m_law_numbers [.int ns[0], .int 4] (G0.push (.lst (row.map D.int))) = .ok (.ref (G0.push (.lst (row.map D.int))).n) ((G0.push (.lst (row.map D.int))).push (.lst (row2.map D.int))) := hs2
      simp only [w_asg, w_call, w_op, w_cons, w_nil, w_v, w_c, List.getElem?_cons_succ, List.getElem?_cons_zero, slotQ_some, opQ_some, ixr, hs2, w_ok, gmN, evQ_some, List.set_cons_succ, List.set_cons_zero]
      exact post _ row2 _ (ob_push_same _ _) (by rw [n_push]; exact Nat.lt_succ_self _) hs1
    · exact post _ row _ (ob_push_same _ _) (by rw [n_push]; exact Nat.lt_succ_self _) hr1
  obtain ⟨d, G', e1, rfl⟩ := Rs.ok_of key
  exact ⟨G', e1⟩
end Lw
open PySem PySem.W PySem.Calls PyProof.Rows in
theorem PySem.Challenge.cw_corebank_k52_statements_add_up_holds : PySem.Challenge.rw_corebank_k52_statements_add_up.Holds := by
  w_on; o_law
  refine HandSHeadRun.head_any (r := OpenLaw.row PySem.Challenge.rw_corebank_k52_statements_add_up) (q := view (OpenLaw.row PySem.Challenge.rw_corebank_k52_statements_add_up).prog [29]) (H := Lw.hk) (ob := Lw.ob) (M := 2600) (loose := Lw.nm) (d := HandSHeadRun.topDef (OpenLaw.row PySem.Challenge.rw_corebank_k52_statements_add_up).prog 29) (kwd := []) Lw.ob_eq
    (by kernel_rfl) (fun s => by kernel_rfl) Lw.run (by kernel_rfl) (by kernel_rfl) (by kernel_rfl) (by rfl) (by first | assumption | decide +kernel) (by decide +kernel) ⟨rfl, rfl, rfl, rfl, rfl, by decide +kernel⟩ ?hw ?hc
  case hw => w_witness2
  case hc =>
    refine Mi.walk_mi (l := PySem.Challenge.rw_corebank_k52_statements_add_up) (n := 63) (k := 10) (x := "_law_script") (m := Lw.m_law) rfl (by decide) rfl ⟨by decide, by decide, by decide⟩ (fun w mg fa h Y ns hm => ?_) Lw.law_ok
    obtain ⟨K, kin, c⟩ := Y
    have T : Lw.TX K mg := Mi.Txt.of c kin ns
    have e := hm.symm.trans (Lw.g_law T)
    cases e
    obtain ⟨fd, F⟩ := T.dfn (d := Lw.d_law) 21 rfl
    refine ⟨K, Lw.tg K, fd, kin, fun s u => F.bindsA (ps := ["_law_script"]) (fun _ _ _ _ _ _ us hl => match us, hl with | [_], _ => rfl) s [u] rfl, fun base _ _ => ?_⟩
    exact Lw.fo_law T F
