import PyProof.Rows.All
import Wide.All
import OpenK.AllK
import Wide.FinOn
import HandS.ForMost
import HandS.ForExc
import HandS.Defaults
import HandS.Wide
import HandS.Flow
import HandS.FStr
import HandS.IsInst
import HandS.Conv
import HandS.StrMore
import HandS.TryOnly
import HandS.TryMany
import HandS.TryElse
import HandS.ExcCtx
import HandS.HotCalls
import HandS.SuiteRaise
import HandS.NoneIn
import HandS.Iter
import HandS.RevRange
import HandS.Comp
import HandS.HeadHook1
import HandS.WordsDict
import HandS.RaiseMore
import HandS.More
import HandS.Text
import HandS.ExcIs
import HandS.HeadHook4
import HandS.EndBits
import HandS.HeadEnd
import HandS.Strs
import HandS.Dict
import KE.KStateDown
import Lean
import HandS.Head0
import HandS.Head1
import HandS.Head2
import PySem.Challenge.RW_corebank_k50_grants_of_an_order
set_option Elab.async false
set_option linter.all false
set_option maxRecDepth 100000
set_option maxHeartbeats 4000000
/-! The layer F over HandS: values in which a tuple is a value, a heap with counted places, and how both stand in L2's abstract heap. -/
namespace Mi
open PySem PySem.Spec PyProof.Rows L2

/-! ### values, heaps -/
inductive D where
  | non | bl (b : Bool) | int (i : Int) | str (x : Str) | tup (xs : List D) | rol (xs : List D) | ref (i : Nat) | cst (c : Nat) | exc (a : Addr)
inductive Ob where
  | lst (xs : List D) | dct (kvs : List (Key × D)) | lk (kvs : List (Key × D)) | ins (c : Nat) (fs : List (Nat × D))
structure Gh where
  n : Nat
  ob : Nat → Ob
def Gh.set (G : Gh) (i : Nat) (o : Ob) : Gh := ⟨G.n, fun j => if j = i then o else G.ob j⟩
def Gh.push (G : Gh) (o : Ob) : Gh := ⟨G.n + 1, fun j => if j = G.n then o else G.ob j⟩
inductive Rs (α : Type) where
  | ok (a : α) (G : Gh) | er (c : Nat) (G : Gh) | no
abbrev M (α : Type) := Gh → Rs α
def Rs.bind {α β : Type} : Rs α → (α → M β) → Rs β
  | .ok a G, f => f a G
  | .er c G, _ => .er c G
  | .no, _ => .no
/-- the text's names by numbers: classes, fields -/
structure Tg where
  ca : Nat → Addr
  fn : Nat → Str
abbrev Ev := List (Option D)
abbrev St := L2.St

/-! ### how they stand -/
def Imm : HO → Prop
  | .tup _ => True
  | .frz _ (.lst _) => True
  | .frz _ (.tup _) => True
  | .frz _ (.dK _) => True
  | _ => False
def Keep (H H' : Hp) : Prop := ∀ a u, H a = some u → Imm u → H' a = some u
/-- .. but for the locked dicts -/
def ImmT : HO → Prop
  | .tup _ => True
  | .frz _ (.lst _) => True
  | .frz _ (.tup _) => True
  | _ => False
def KeepT (H H' : Hp) : Prop := ∀ a u, H a = some u → ImmT u → H' a = some u
theorem ImmT.imm {u : HO} (h : ImmT u) : Imm u := by
  cases u with
  | tup xs => exact trivial
  | frz o u =>
    cases u with
    | lst xs => exact trivial
    | tup xs => exact trivial
    | _ => exact h.elim
  | _ => exact h.elim
theorem Keep.t {H H' : Hp} (k : Keep H H') : KeepT H H' := fun a u e i => k a u e i.imm
theorem Keep.refl (H : Hp) : Keep H H := fun _ _ e _ => e
theorem Keep.trans {H H1 H2 : Hp} (a : Keep H H1) (b : Keep H1 H2) : Keep H H2 := fun c u e i => b c u (a c u e i) i
theorem Keep.new {H : Hp} {p : Addr} {o : HO} (h : H p = none) : Keep H (upd H p o) := fun a u e _ => by rw [upd_ne (ne_of_none e h)]; exact e
theorem Keep.mut {H : Hp} {p : Addr} {o u : HO} (h : H p = some u) (hi : ¬ Imm u) : Keep H (upd H p o) := fun a v e i => by
  have n : a ≠ p := fun z => by subst z; rw [h] at e; cases e; exact hi i
  rw [upd_ne n]; exact e
/-- a list that is only read: the script, a list of the written part -/
def SqR (K : PySem.W.Frag) (H : Hp) (a : Addr) (xs : List V) : Prop :=
  (∃ o, H a = some (.frz o (.lst xs))) ∨
    ∃ (o : Obj) (its : Array Value) (n : Nat), K.lookup a = some o ∧ o.cls = .type "list" ∧ o.dict = none ∧ o.data = .seq its n ∧ its.size ≤ sizeLine ∧ Vals xs its.toList
theorem SqR.seq {K : PySem.W.Frag} {H : Hp} {a : Addr} {xs : List V} (h : SqR K H a xs) : SqL K H a xs := by
  rcases h with ⟨o, h⟩ | h
  · exact .inl (.inr ⟨o, h⟩)
  · exact .inr h
theorem SqR.keep {K : PySem.W.Frag} {H H' : Hp} {a : Addr} {xs : List V} (k : KeepT H H') (h : SqR K H a xs) : SqR K H' a xs := by
  rcases h with ⟨o, h⟩ | h
  · exact .inl ⟨o, k _ _ h trivial⟩
  · exact .inr h
theorem keepT {K : PySem.W.Frag} {H H' : Hp} {a : Addr} {xs : List V} (k : KeepT H H') (h : SqT K H a xs) : SqT K H' a xs := by
  rcases h with (h | ⟨o, h⟩) | h
  · exact .inl (.inl (k _ _ h trivial))
  · exact .inl (.inr ⟨o, k _ _ h trivial⟩)
  · exact .inr h
mutual
def RV (K : PySem.W.Frag) (g : Tg) (ρ : List Addr) (H : Hp) : D → V → Prop
  | .non, v => v = .non
  | .bl b, v => v = .bl b
  | .int i, v => v = .int i
  | .str x, v => v = .str x
  | .tup xs, v => ∃ a vs, v = .ref a ∧ SqT K H a vs ∧ RVs K g ρ H xs vs
  | .rol xs, v => ∃ a vs, v = .ref a ∧ SqR K H a vs ∧ RVs K g ρ H xs vs
  | .ref i, v => ∃ a, ρ[i]? = some a ∧ v = .ref a
  | .cst c, v => v = .ref (g.ca c)
  | .exc a, v => v = .ref a
def RVs (K : PySem.W.Frag) (g : Tg) (ρ : List Addr) (H : Hp) : List D → List V → Prop
  | [], vs => vs = []
  | x :: xs, vs => ∃ v r, vs = v :: r ∧ RV K g ρ H x v ∧ RVs K g ρ H xs r
end
structure Ext (ρ : List Addr) (H : Hp) (ρ' : List Addr) (H' : Hp) : Prop where
  pre : ∀ (i : Nat) a, ρ[i]? = some a → ρ'[i]? = some a
  keep : Keep H H'
theorem Ext.refl (ρ : List Addr) (H : Hp) : Ext ρ H ρ H := ⟨fun _ _ e => e, .refl H⟩
theorem Ext.trans {ρ ρ1 ρ2 : List Addr} {H H1 H2 : Hp} (a : Ext ρ H ρ1 H1) (b : Ext ρ1 H1 ρ2 H2) : Ext ρ H ρ2 H2 := ⟨fun i c e => b.pre i c (a.pre i c e), a.keep.trans b.keep⟩
section
variable {K : PySem.W.Frag} {g : Tg} {ρ ρ' : List Addr} {H H' : Hp}
theorem Ext.kt (x : Ext ρ H ρ' H') : KeepT H H' := x.keep.t
mutual
theorem RV.extT (hp : ∀ (i : Nat) a, ρ[i]? = some a → ρ'[i]? = some a) (hk : KeepT H H') : ∀ {d : D} {v : V}, RV K g ρ H d v → RV K g ρ' H' d v
  | .non, _, h => h
  | .bl _, _, h => h
  | .int _, _, h => h
  | .str _, _, h => h
  | .tup xs, _, h => by
    rw [RV] at h ⊢
    obtain ⟨a, vs, e, s, r⟩ := h
    exact ⟨a, vs, e, keepT hk s, RVs.extT hp hk r⟩
  | .rol xs, _, h => by
    rw [RV] at h ⊢
    obtain ⟨a, vs, e, s, r⟩ := h
    exact ⟨a, vs, e, s.keep hk, RVs.extT hp hk r⟩
  | .ref i, _, h => by
    rw [RV] at h ⊢
    obtain ⟨a, e, q⟩ := h
    exact ⟨a, hp _ _ e, q⟩
  | .cst _, _, h => h
  | .exc _, _, h => h
theorem RVs.extT (hp : ∀ (i : Nat) a, ρ[i]? = some a → ρ'[i]? = some a) (hk : KeepT H H') : ∀ {ds : List D} {vs : List V}, RVs K g ρ H ds vs → RVs K g ρ' H' ds vs
  | [], _, h => h
  | d :: ds, _, h => by
    rw [RVs] at h ⊢
    obtain ⟨v, r, e, h1, h2⟩ := h
    exact ⟨v, r, e, RV.extT hp hk h1, RVs.extT hp hk h2⟩
end
theorem RV.ext (x : Ext ρ H ρ' H') {d : D} {v : V} (h : RV K g ρ H d v) : RV K g ρ' H' d v := h.extT x.pre x.kt
theorem RVs.ext (x : Ext ρ H ρ' H') {ds : List D} {vs : List V} (h : RVs K g ρ H ds vs) : RVs K g ρ' H' ds vs := h.extT x.pre x.kt
theorem RVs.nil : RVs K g ρ H [] [] := by rw [RVs]
theorem RVs.cons {d : D} {ds : List D} {v : V} {vs : List V} (a : RV K g ρ H d v) (b : RVs K g ρ H ds vs) : RVs K g ρ H (d :: ds) (v :: vs) := by rw [RVs]; exact ⟨v, vs, rfl, a, b⟩
theorem RVs.len : ∀ {ds : List D} {vs : List V}, RVs K g ρ H ds vs → vs.length = ds.length
  | [], _, h => by rw [RVs] at h; subst h; rfl
  | d :: ds, _, h => by
    rw [RVs] at h
    obtain ⟨v, r, e, _, h2⟩ := h
    subst e
    simp only [List.length_cons, RVs.len h2]
theorem RVs.app : ∀ {ds es : List D} {vs ws : List V}, RVs K g ρ H ds vs → RVs K g ρ H es ws → RVs K g ρ H (ds ++ es) (vs ++ ws)
  | [], _, _, _, h, k => by rw [RVs] at h; subst h; exact k
  | d :: ds, _, _, _, h, k => by
    rw [RVs] at h
    obtain ⟨v, r, e, h1, h2⟩ := h
    subst e
    exact .cons h1 (RVs.app h2 k)
theorem RVs.get : ∀ {ds : List D} {vs : List V} {i : Nat} {d : D}, RVs K g ρ H ds vs → ds[i]? = some d → ∃ v, vs[i]? = some v ∧ RV K g ρ H d v
  | [], _, _, _, _, e => by simp at e
  | d :: ds, _, 0, _, h, e => by
    rw [RVs] at h
    obtain ⟨v, r, q, h1, h2⟩ := h
    subst q
    simp at e; subst e
    exact ⟨v, rfl, h1⟩
  | d :: ds, _, i + 1, _, h, e => by
    rw [RVs] at h
    obtain ⟨v, r, q, h1, h2⟩ := h
    subst q
    obtain ⟨w, e1, r1⟩ := RVs.get (i := i) h2 (by simpa using e)
    exact ⟨w, by simpa using e1, r1⟩
theorem RVs.get' : ∀ {ds : List D} {vs : List V} {i : Nat} {v : V}, RVs K g ρ H ds vs → vs[i]? = some v → ∃ d, ds[i]? = some d ∧ RV K g ρ H d v := fun {ds vs i v} h e => by
  have hi : i < ds.length := by rw [← h.len]; exact (List.getElem?_eq_some_iff.mp e).1
  obtain ⟨w, e1, r1⟩ := h.get (List.getElem?_eq_getElem hi)
  rw [e] at e1; cases e1
  exact ⟨_, List.getElem?_eq_getElem hi, r1⟩
theorem RVs.set {d : D} {v : V} (r : RV K g ρ H d v) : ∀ {ds : List D} {vs : List V} (i : Nat), RVs K g ρ H ds vs → RVs K g ρ H (ds.set i d) (vs.set i v)
  | [], _, _, h => by rw [RVs] at h; subst h; exact .nil
  | e :: ds, _, i, h => by
    rw [RVs] at h
    obtain ⟨w, q, z, h1, h2⟩ := h
    subst z
    cases i with
    | zero => exact .cons r h2
    | succ i => exact .cons h1 (RVs.set r i h2)
theorem RVs.drop : ∀ {ds : List D} {vs : List V} (i : Nat), RVs K g ρ H ds vs → RVs K g ρ H (ds.drop i) (vs.drop i)
  | _, _, 0, h => h
  | [], _, _ + 1, h => by rw [RVs] at h; subst h; exact .nil
  | e :: ds, _, i + 1, h => by
    rw [RVs] at h
    obtain ⟨w, q, z, h1, h2⟩ := h
    subst z
    exact RVs.drop i h2
theorem RVs.take : ∀ {ds : List D} {vs : List V} (i : Nat), RVs K g ρ H ds vs → RVs K g ρ H (ds.take i) (vs.take i)
  | _, _, 0, h => .nil
  | [], _, _ + 1, h => by rw [RVs] at h; subst h; exact .nil
  | e :: ds, _, i + 1, h => by
    rw [RVs] at h
    obtain ⟨w, q, z, h1, h2⟩ := h
    subst z
    exact .cons h1 (RVs.take i h2)
end
/-- pairs, by a map of the keys -/
def RM (K : PySem.W.Frag) (g : Tg) (ρ : List Addr) (H : Hp) {κ κ' : Type} (f : κ → κ') : List (κ × D) → List (κ' × V) → Prop
  | [], ws => ws = []
  | (k, d) :: r, ws => ∃ v q, ws = (f k, v) :: q ∧ RV K g ρ H d v ∧ RM K g ρ H f r q
def RO (K : PySem.W.Frag) (g : Tg) (ρ : List Addr) (H : Hp) : Ob → Addr → Prop
  | .lst xs, a => ∃ vs, H a = some (.lst vs) ∧ RVs K g ρ H xs vs
  | .dct kvs, a => ∃ ws, H a = some (.dK ws) ∧ RM K g ρ H id kvs ws ∧ (kvs.map (·.1)).Nodup
  | .lk kvs, a => ∃ o ws, H a = some (.frz o (.dK ws)) ∧ RM K g ρ H id kvs ws ∧ (kvs.map (·.1)).Nodup
  | .ins c fs, a => ∃ dx ws, H a = some (.ins (g.ca c) dx ws) ∧ RM K g ρ H g.fn fs ws
structure Rep (K : PySem.W.Frag) (g : Tg) (ρ : List Addr) (G : Gh) (H : Hp) : Prop where
  len : ρ.length = G.n
  nd : ρ.Nodup
  obj : ∀ (i : Nat) a, ρ[i]? = some a → RO K g ρ H (G.ob i) a
def RE (K : PySem.W.Frag) (g : Tg) (ρ : List Addr) (H : Hp) : Ev → St → Prop
  | [], σ => σ = []
  | none :: r, σ => ∃ y q, σ = y :: q ∧ RE K g ρ H r q
  | some d :: r, σ => ∃ v q, σ = some v :: q ∧ RV K g ρ H d v ∧ RE K g ρ H r q
section
variable {K : PySem.W.Frag} {g : Tg} {ρ ρ' : List Addr} {H H' : Hp} {G : Gh}
theorem RM.extT {κ κ' : Type} {f : κ → κ'} (hp : ∀ (i : Nat) a, ρ[i]? = some a → ρ'[i]? = some a) (hk : KeepT H H') : ∀ {l : List (κ × D)} {ws : List (κ' × V)}, RM K g ρ H f l ws → RM K g ρ' H' f l ws
  | [], _, h => h
  | (k, d) :: r, _, h => by
    rw [RM] at h ⊢
    obtain ⟨v, q, e, h1, h2⟩ := h
    exact ⟨v, q, e, h1.extT hp hk, RM.extT hp hk h2⟩
theorem RM.ext {κ κ' : Type} {f : κ → κ'} (x : Ext ρ H ρ' H') {l : List (κ × D)} {ws : List (κ' × V)} (h : RM K g ρ H f l ws) : RM K g ρ' H' f l ws := h.extT x.pre x.kt
theorem RO.extT {o : Ob} {a : Addr} (hp : ∀ (i : Nat) a, ρ[i]? = some a → ρ'[i]? = some a) (hk : KeepT H H') (e : H' a = H a) (h : RO K g ρ H o a) : RO K g ρ' H' o a := by
  cases o with
  | lst xs => obtain ⟨vs, h1, h2⟩ := h; exact ⟨vs, e.trans h1, h2.extT hp hk⟩
  | dct kvs => obtain ⟨ws, h1, h2, h3⟩ := h; exact ⟨ws, e.trans h1, h2.extT hp hk, h3⟩
  | lk kvs => obtain ⟨o, ws, h1, h2, h3⟩ := h; exact ⟨o, ws, e.trans h1, h2.extT hp hk, h3⟩
  | ins c fs => obtain ⟨dx, ws, h1, h2⟩ := h; exact ⟨dx, ws, e.trans h1, h2.extT hp hk⟩
theorem RO.ext {o : Ob} {a : Addr} (x : Ext ρ H ρ' H') (e : H' a = H a) (h : RO K g ρ H o a) : RO K g ρ' H' o a := h.extT x.pre x.kt e
def Ob.lkd : Ob → Bool
  | .lk _ => true
  | _ => false
theorem RO.there {o : Ob} {a : Addr} (h : RO K g ρ H o a) : ∃ u, H a = some u := by
  cases o with
  | lst xs => obtain ⟨vs, h1, h2⟩ := h; exact ⟨_, h1⟩
  | dct kvs => obtain ⟨ws, h1, h2⟩ := h; exact ⟨_, h1⟩
  | lk kvs => obtain ⟨o, ws, h1, h2⟩ := h; exact ⟨_, h1⟩
  | ins c fs => obtain ⟨dx, ws, h1, h2⟩ := h; exact ⟨_, h1⟩
theorem RO.mut {o : Ob} {a : Addr} (h : RO K g ρ H o a) (n : o.lkd = false) : ∃ u, H a = some u ∧ ¬ Imm u := by
  cases o with
  | lst xs => obtain ⟨vs, h1, h2⟩ := h; exact ⟨_, h1, id⟩
  | dct kvs => obtain ⟨ws, h1, h2⟩ := h; exact ⟨_, h1, id⟩
  | lk kvs => cases n
  | ins c fs => obtain ⟨dx, ws, h1, h2⟩ := h; exact ⟨_, h1, id⟩
theorem RE.extT (hp : ∀ (i : Nat) a, ρ[i]? = some a → ρ'[i]? = some a) (hk : KeepT H H') : ∀ {env : Ev} {σ : St}, RE K g ρ H env σ → RE K g ρ' H' env σ
  | [], _, h => h
  | none :: r, _, h => by
    rw [RE] at h ⊢
    obtain ⟨y, q, e, h2⟩ := h
    exact ⟨y, q, e, RE.extT hp hk h2⟩
  | some d :: r, _, h => by
    rw [RE] at h ⊢
    obtain ⟨v, q, e, h1, h2⟩ := h
    exact ⟨v, q, e, h1.extT hp hk, RE.extT hp hk h2⟩
theorem RE.ext (x : Ext ρ H ρ' H') {env : Ev} {σ : St} (h : RE K g ρ H env σ) : RE K g ρ' H' env σ := h.extT x.pre x.kt
theorem RE.get : ∀ {env : Ev} {σ : St} {i : Nat} {d : D}, RE K g ρ H env σ → env[i]? = some (some d) → ∃ v, σ[i]? = some (some v) ∧ RV K g ρ H d v
  | [], _, _, _, _, e => by simp at e
  | none :: r, _, i, _, h, e => by
    rw [RE] at h
    obtain ⟨y, q, z, h2⟩ := h
    subst z
    cases i with
    | zero => simp at e
    | succ i =>
      obtain ⟨w, e1, r1⟩ := RE.get (i := i) h2 (by simpa using e)
      exact ⟨w, by simpa using e1, r1⟩
  | some d :: r, _, i, _, h, e => by
    rw [RE] at h
    obtain ⟨v, q, z, h1, h2⟩ := h
    subst z
    cases i with
    | zero => simp at e; subst e; exact ⟨v, rfl, h1⟩
    | succ i =>
      obtain ⟨w, e1, r1⟩ := RE.get (i := i) h2 (by simpa using e)
      exact ⟨w, by simpa using e1, r1⟩
theorem RE.set {d : D} {v : V} (r : RV K g ρ H d v) : ∀ {env : Ev} {σ : St} (i : Nat), RE K g ρ H env σ → RE K g ρ H (env.set i (some d)) (σ.set i (some v))
  | [], _, _, h => by rw [RE] at h; subst h; rw [List.set_nil, List.set_nil, RE]
  | none :: t, _, i, h => by
    rw [RE] at h
    obtain ⟨y, q, z, h2⟩ := h
    subst z
    cases i with
    | zero => rw [List.set_cons_zero, List.set_cons_zero, RE]; exact ⟨_, _, rfl, r, h2⟩
    | succ i => rw [List.set_cons_succ, List.set_cons_succ, RE]; exact ⟨_, _, rfl, RE.set r i h2⟩
  | some e :: t, _, i, h => by
    rw [RE] at h
    obtain ⟨y, q, z, h1, h2⟩ := h
    subst z
    cases i with
    | zero => rw [List.set_cons_zero, List.set_cons_zero, RE]; exact ⟨_, _, rfl, r, h2⟩
    | succ i => rw [List.set_cons_succ, List.set_cons_succ, RE]; exact ⟨_, _, rfl, h1, RE.set r i h2⟩
theorem RE.unset : ∀ {env : Ev} {σ : St} (i : Nat) (y : Option V), RE K g ρ H env σ → RE K g ρ H (env.set i none) (σ.set i y)
  | [], _, _, _, h => by rw [RE] at h; subst h; rw [List.set_nil, List.set_nil, RE]
  | none :: t, _, i, y, h => by
    rw [RE] at h
    obtain ⟨y, q, z, h2⟩ := h
    subst z
    cases i with
    | zero => rw [List.set_cons_zero, List.set_cons_zero, RE]; exact ⟨_, _, rfl, h2⟩
    | succ i => rw [List.set_cons_succ, List.set_cons_succ, RE]; exact ⟨_, _, rfl, RE.unset i _ h2⟩
  | some e :: t, _, i, y, h => by
    rw [RE] at h
    obtain ⟨y, q, z, h1, h2⟩ := h
    subst z
    cases i with
    | zero => rw [List.set_cons_zero, List.set_cons_zero, RE]; exact ⟨_, _, rfl, h2⟩
    | succ i => rw [List.set_cons_succ, List.set_cons_succ, RE]; exact ⟨_, _, rfl, h1, RE.unset i _ h2⟩
theorem RE.args : ∀ {ds : List D} {vs : List V} (n : Nat), RVs K g ρ H ds vs → RE K g ρ H (ds.map some ++ List.replicate n none) (vs.map some ++ List.replicate n none)
  | [], _, 0, h => by rw [RVs] at h; subst h; rfl
  | [], _, n + 1, h => by
    rw [RVs] at h; subst h
    rw [List.map_nil, List.map_nil, List.nil_append, List.nil_append, List.replicate_succ, List.replicate_succ, RE]
    exact ⟨none, _, rfl, by simpa using RE.args (ds := []) (vs := []) n .nil⟩
  | d :: ds, _, n, h => by
    rw [RVs] at h
    obtain ⟨v, r, e, h1, h2⟩ := h
    subst e
    rw [List.map_cons, List.map_cons, List.cons_append, List.cons_append, RE]
    exact ⟨v, _, rfl, h1, RE.args n h2⟩

/-! ### steps of the heap -/
theorem Rep.at (R : Rep K g ρ G H) {i : Nat} (h : i < G.n) : ∃ a, ρ[i]? = some a := ⟨_, List.getElem?_eq_getElem (by rw [R.len]; exact h)⟩
/-- a heap that has grown, or changed where nothing of ours stands -/
theorem Rep.other (R : Rep K g ρ G H) (e : ∀ a ∈ ρ, H' a = H a) (k : Keep H H') : Rep K g ρ G H' :=
  ⟨R.len, R.nd, fun i a h => (R.obj i a h).ext ⟨fun _ _ z => z, k⟩ (e a (List.mem_of_getElem? h))⟩
theorem Rep.free (R : Rep K g ρ G H) {p : Addr} (h : H p = none) : ∀ a ∈ ρ, a ≠ p := fun a ha z => by
  subst z
  obtain ⟨i, hi⟩ := List.mem_iff_getElem?.mp ha
  obtain ⟨u, e⟩ := (R.obj i a hi).there
  rw [h] at e; cases e
theorem Rep.grow (R : Rep K g ρ G H) {p : Addr} {o : HO} (h : H p = none) : Rep K g ρ G (upd H p o) :=
  R.other (fun a ha => upd_ne (R.free h a ha)) (.new h)
/-- a new object of ours -/
theorem Rep.new (R : Rep K g ρ G H) {p : Addr} {o : HO} {ob : Ob} (h : H p = none) (n : RO K g (ρ ++ [p]) (upd H p o) ob p) : Rep K g (ρ ++ [p]) (G.push ob) (upd H p o) ∧ Ext ρ H (ρ ++ [p]) (upd H p o) ∧ (ρ ++ [p])[G.n]? = some p := by
  have x : Ext ρ H (ρ ++ [p]) (upd H p o) := ⟨fun i a e => by rw [List.getElem?_append_left (List.getElem?_eq_some_iff.mp e).1]; exact e, .new h⟩
  have q : (ρ ++ [p])[G.n]? = some p := by rw [← R.len, List.getElem?_append_right (Nat.le_refl _)]; simp
  refine ⟨⟨by rw [List.length_append, R.len]; rfl, ?_, fun i a e => ?_⟩, x, q⟩
  · rw [List.nodup_append]
    exact ⟨R.nd, by simp, fun a ha b hb => by
      have e : b = p := by simpa using hb
      subst e
      exact R.free h a ha⟩
  · by_cases hi : i < ρ.length
    · rw [List.getElem?_append_left hi] at e
      have hn : i ≠ G.n := by rw [← R.len]; omega
      show RO K g _ _ (if i = G.n then ob else G.ob i) a
      rw [if_neg hn]
      exact (R.obj i a e).ext x (upd_ne (R.free h a (List.mem_of_getElem? e)))
    · have hi' : i = G.n := by
        have := (List.getElem?_eq_some_iff.mp e).1
        rw [List.length_append, List.length_singleton] at this
        rw [← R.len]; omega
      subst hi'
      rw [q] at e; cases e
      show RO K g _ _ (if G.n = G.n then ob else _) p
      rw [if_pos rfl]
      exact n
/-- one of ours is written -/
theorem Rep.write (R : Rep K g ρ G H) {i : Nat} {a : Addr} {o : HO} {ob : Ob} (h : ρ[i]? = some a) (hm : (G.ob i).lkd = false) (n : Ext ρ H ρ (upd H a o) → RO K g ρ (upd H a o) ob a) : Rep K g ρ (G.set i ob) (upd H a o) ∧ Ext ρ H ρ (upd H a o) := by
  obtain ⟨u, e, hi⟩ := (R.obj i a h).mut hm
  have x : Ext ρ H ρ (upd H a o) := ⟨fun _ _ z => z, .mut e hi⟩
  refine ⟨⟨R.len, R.nd, fun j b q => ?_⟩, x⟩
  show RO K g _ _ (if j = i then ob else G.ob j) b
  by_cases hj : j = i
  · subst hj
    rw [h] at q; cases q
    rw [if_pos rfl]
    exact n x
  · rw [if_neg hj]
    refine (R.obj j b q).ext x (upd_ne fun z => ?_)
    subst z
    have h1 := (List.getElem?_eq_some_iff.mp h)
    have h2 := (List.getElem?_eq_some_iff.mp q)
    exact hj ((List.getElem_inj R.nd).mp (h2.2.trans h1.2.symm))
end
end Mi
/-! F, part 2: judgements, expressions. -/
namespace Mi
open PySem PySem.Spec PyProof.Rows L2

/-! ### what is wanted behind a mirror's step -/
def Po (K : PySem.W.Frag) (g : Tg) (W : WX) (σ : St) (ρ : List Addr) (H : Hp) {α : Type} : Rs α → (α → Gh → List Addr → Hp → Prop) → Prop
  | .ok a G, P => ∀ ρ' H', Ext ρ H ρ' H' → Rep K g ρ' G H' → P a G ρ' H'
  | .er c G, _ => ∀ ρ' H', Ext ρ H ρ' H' → Rep K g ρ' G H' → W (.ref (g.ca c)) none σ H'
  | .no, _ => False
section
variable {K : PySem.W.Frag} {g : Tg} {W : WX} {σ : St} {ρ ρ' : List Addr} {H H' : Hp} {α β : Type}
theorem Po.start {r : Rs α} {P : α → Gh → List Addr → Hp → Prop} (h : Po K g W σ ρ H r P) (x : Ext ρ H ρ' H') : Po K g W σ ρ' H' r P := by
  cases r with
  | ok a G => exact fun ρ2 H2 x2 R => h ρ2 H2 (x.trans x2) R
  | er c G => exact fun ρ2 H2 x2 R => h ρ2 H2 (x.trans x2) R
  | no => exact h
theorem Po.bind {r : Rs α} {f : α → M β} {P : β → Gh → List Addr → Hp → Prop} (h : Po K g W σ ρ H (r.bind f) P) : Po K g W σ ρ H r fun a G ρ' H' => Po K g W σ ρ' H' (f a G) P := by
  cases r with
  | ok a G => exact fun ρ2 H2 x2 R => Po.start h x2
  | er c G => exact h
  | no => exact h
theorem Po.imp {r : Rs α} {P P' : α → Gh → List Addr → Hp → Prop} (h : Po K g W σ ρ H r P) (k : ∀ a G ρ' H', Ext ρ H ρ' H' → Rep K g ρ' G H' → P a G ρ' H' → P' a G ρ' H') : Po K g W σ ρ H r P' := by
  cases r with
  | ok a G => exact fun ρ2 H2 x2 R => k a G ρ2 H2 x2 R (h ρ2 H2 x2 R)
  | er c G => exact h
  | no => exact h
theorem Po.now {a : α} {G : Gh} {P : α → Gh → List Addr → Hp → Prop} (h : Po K g W σ ρ H (.ok a G) P) (R : Rep K g ρ G H) : P a G ρ H := h ρ H (.refl _ _) R
end
def tE (K : PySem.W.Frag) (g : Tg) (W : WX) (m : Ev → M D) : TE := fun σ H Q => ∃ ρ env G, Rep K g ρ G H ∧ RE K g ρ H env σ ∧ Po K g W σ ρ H (m env G) fun d _ ρ' H' => ∀ v, RV K g ρ' H' d v → Q v H'
def tA (K : PySem.W.Frag) (g : Tg) (W : WX) (m : Ev → M (List D)) : TA := fun σ H Q => ∃ ρ env G, Rep K g ρ G H ∧ RE K g ρ H env σ ∧ Po K g W σ ρ H (m env G) fun ds _ ρ' H' => ∀ vs, RVs K g ρ' H' ds vs → Q vs H'
def tT (K : PySem.W.Frag) (g : Tg) (W : WX) (m : Ev → M Bool) : TT := fun σ H Q => ∃ ρ env G, Rep K g ρ G H ∧ RE K g ρ H env σ ∧ Po K g W σ ρ H (m env G) fun b _ _ H' => Q b H'
/-- a slice's part -/
def tP (K : PySem.W.Frag) (g : Tg) (W : WX) (m : Ev → M (Option Int)) : TO := fun σ H Q => ∃ ρ env G, Rep K g ρ G H ∧ RE K g ρ H env σ ∧ Po K g W σ ρ H (m env G) fun o _ _ H' => Q o H'
theorem PE.imp {X : Cx} {e : Expr} {t t' : TE} (h : PE X e t) (k : ∀ σ H Q, t' σ H Q → t σ H Q) : PE X e t' := ⟨fun pins s σ H Q I q => h.run pins s σ H Q I (k σ H Q q)⟩
theorem PT.imp {X : Cx} {e : Expr} {t t' : TT} (h : PT X e t) (k : ∀ σ H Q, t' σ H Q → t σ H Q) : PT X e t' := ⟨fun pins s σ H Q I q => h.run pins s σ H Q I (k σ H Q q)⟩
theorem PW.imp {X : Cx} {e : Expr} {t t' : TT} (h : PW X e t) (k : ∀ σ H Q, t' σ H Q → t σ H Q) : PW X e t' := ⟨fun wh pins s σ H Q I q => h.run wh pins s σ H Q I (k σ H Q q)⟩
theorem PA.imp {X : Cx} {es : List Expr} {t t' : TA} (h : PA X es t) (k : ∀ σ H Q, t' σ H Q → t σ H Q) : PA X es t' := ⟨fun pos pins s σ H Q I q => h.run pos pins s σ H Q I (k σ H Q q)⟩
theorem PO.imp {X : Cx} {e : Option Expr} {t t' : TO} (h : PO X e t) (k : ∀ σ H Q, t' σ H Q → t σ H Q) : PO X e t' := ⟨fun pins s σ H Q I q => h.run pins s σ H Q I (k σ H Q q)⟩
theorem PS.imp {X : Cx} {e : Stmt} {t t' : TS} (h : PS X e t) (k : ∀ D σ H, t' D σ H → t D σ H) : PS X e t' := ⟨fun pins s σ H D I q => h.run pins s σ H D I (k D σ H q)⟩
theorem PSs.imp {X : Cx} {e : List Stmt} {t t' : TS} (h : PSs X e t) (k : ∀ D σ H, t' D σ H → t D σ H) : PSs X e t' := ⟨fun pins s σ H D I q => h.run pins s σ H D I (k D σ H q)⟩
theorem OpR.imp {X : Cx} {f : Value → Value → Sem Value} {r r' : R2} (h : OpR X f r) (k : ∀ x y H Q, r' x y H Q → r x y H Q) : OpR X f r' := fun pins s σ H x y v u Q I rx ry q => h pins s σ H x y v u Q I rx ry (k x y H Q q)
abbrev FE (X : Cx) (g : Tg) (W : WX) (e : Expr) (m : Ev → M D) : Prop := PE X e (tE X.K g W m)
abbrev FT (X : Cx) (g : Tg) (W : WX) (e : Expr) (m : Ev → M Bool) : Prop := PT X e (tT X.K g W m)
abbrev FW (X : Cx) (g : Tg) (W : WX) (e : Expr) (m : Ev → M Bool) : Prop := PW X e (tT X.K g W m)
abbrev FA (X : Cx) (g : Tg) (W : WX) (es : List Expr) (m : Ev → M (List D)) : Prop := PA X es (tA X.K g W m)
abbrev FO (X : Cx) (g : Tg) (W : WX) (e : Option Expr) (m : Ev → M (Option Int)) : Prop := PO X e (tP X.K g W m)

section
variable {K : PySem.W.Frag} {g : Tg} {W : WX} {σ : St} {ρ : List Addr} {H : Hp} {env : Ev} {G : Gh}
theorem tE_run {m : Ev → M D} {P : D → Gh → List Addr → Hp → Prop} {Q : VK} (R : Rep K g ρ G H) (E : RE K g ρ H env σ) (h : Po K g W σ ρ H (m env G) P)
    (k : ∀ d G' ρ' H', Ext ρ H ρ' H' → Rep K g ρ' G' H' → P d G' ρ' H' → ∀ v, RV K g ρ' H' d v → Q v H') : tE K g W m σ H Q := ⟨ρ, env, G, R, E, h.imp k⟩
theorem tA_run {m : Ev → M (List D)} {P : List D → Gh → List Addr → Hp → Prop} {Q : List V → Hp → Prop} (R : Rep K g ρ G H) (E : RE K g ρ H env σ) (h : Po K g W σ ρ H (m env G) P)
    (k : ∀ d G' ρ' H', Ext ρ H ρ' H' → Rep K g ρ' G' H' → P d G' ρ' H' → ∀ v, RVs K g ρ' H' d v → Q v H') : tA K g W m σ H Q := ⟨ρ, env, G, R, E, h.imp k⟩
theorem tT_run {m : Ev → M Bool} {P : Bool → Gh → List Addr → Hp → Prop} {Q : Bool → Hp → Prop} (R : Rep K g ρ G H) (E : RE K g ρ H env σ) (h : Po K g W σ ρ H (m env G) P)
    (k : ∀ d G' ρ' H', Ext ρ H ρ' H' → Rep K g ρ' G' H' → P d G' ρ' H' → Q d H') : tT K g W m σ H Q := ⟨ρ, env, G, R, E, h.imp k⟩
theorem tP_run {m : Ev → M (Option Int)} {P : Option Int → Gh → List Addr → Hp → Prop} {Q : Option Int → Hp → Prop} (R : Rep K g ρ G H) (E : RE K g ρ H env σ) (h : Po K g W σ ρ H (m env G) P)
    (k : ∀ d G' ρ' H', Ext ρ H ρ' H' → Rep K g ρ' G' H' → P d G' ρ' H' → Q d H') : tP K g W m σ H Q := ⟨ρ, env, G, R, E, h.imp k⟩
end

/-! ### names, constants -/
/-- what is written in the text -/
def eC (d : D) : Ev → M D := fun _ G => .ok d G
def eVar (i : Nat) : Ev → M D := fun env G => match env[i]? with
  | some (some d) => .ok d G
  | _ => .no
section
variable {X : Cx} {g : Tg} {W : WX} {pos : Pos}
theorem fe_var (i : Nat) {x : Str} (hN : X.N[i]? = some x) (hv : Vis X.env.scope x) (hd : (x == ("__debug__" : Str)) = false := by decide) (hcd : (x == ("__classdict__" : Str)) = false := by decide) : FE X g W (.Name x pos) (eVar i) := by
  refine PE.imp (pe_var hN hv hd hcd) ?_
  rintro σ H Q ⟨ρ, env, G, R, E, h⟩
  unfold eVar at h
  split at h
  · rename_i d e
    obtain ⟨v, e1, r1⟩ := E.get e
    exact ⟨v, e1, h.now R v r1⟩
  · exact h.elim
theorem fe_of {e : Expr} {d : D} {v : V} (h : PE X e (tC v)) (r : ∀ ρ H, RV X.K g ρ H d v) : FE X g W e (eC d) :=
  PE.imp h fun σ H Q ⟨ρ, env, G, R, E, h⟩ => h.now R v (r ρ H)
theorem fe_int {i j} : FE X g W (.Constant (.int i) j pos) (eC (.int i)) := fe_of pe_int fun _ _ => rfl
theorem fe_bl {i j} : FE X g W (.Constant (.bool i) j pos) (eC (.bl i)) := fe_of pe_bl fun _ _ => rfl
theorem fe_str {i j} : FE X g W (.Constant (.str i) j pos) (eC (.str i)) := fe_of pe_str fun _ _ => rfl
theorem fe_non {j} : FE X g W (.Constant .none j pos) (eC .non) := fe_of pe_non fun _ _ => rfl
/-- a module's constant: an int, a text -/
theorem fe_gint {x : Str} {i : Int} (hg : Gl X x) (hm : ∃ t, X.mg x = some (.int i t)) (hd : (x == ("__debug__" : Str)) = false := by decide) : FE X g W (.Name x pos) (eC (.int i)) := by
  obtain ⟨t, e⟩ := hm
  exact fe_of (pe_glob hg e (v := .int i) ⟨t, rfl⟩ hd) fun _ _ => rfl
theorem fe_gstr {x i : Str} (hg : Gl X x) (hm : ∃ t, X.mg x = some (.str i t)) (hd : (x == ("__debug__" : Str)) = false := by decide) : FE X g W (.Name x pos) (eC (.str i)) := by
  obtain ⟨t, e⟩ := hm
  exact fe_of (pe_glob hg e (v := .str i) ⟨t, rfl⟩ hd) fun _ _ => rfl
/-- a class, a def as a value -/
theorem fe_gcst {x : Str} {c : Nat} (hg : Gl X x) (hm : X.mg x = some (.ref (g.ca c))) (hd : (x == ("__debug__" : Str)) = false := by decide) : FE X g W (.Name x pos) (eC (.cst c)) :=
  fe_of (pe_glob hg hm (v := .ref (g.ca c)) rfl hd) fun _ _ => rfl
/-- a module's tuple -/
theorem fe_gtup {x : Str} {a : Addr} {ds : List D} {vs : List V} (hg : Gl X x) (hm : X.mg x = some (.ref a)) (hs : ∀ H, SqT X.K H a vs) (hv : ∀ ρ H, RVs X.K g ρ H ds vs) (hd : (x == ("__debug__" : Str)) = false := by decide) : FE X g W (.Name x pos) (eC (.tup ds)) :=
  fe_of (pe_glob hg hm (v := .ref a) rfl hd) fun ρ H => by rw [RV]; exact ⟨a, vs, rfl, hs H, hv ρ H⟩
end

/-! ### two-place operations -/
abbrev O2 := D → D → Gh → Option (D × Gh)
def lift (o : Option (D × Gh)) : Rs D := match o with
  | some (d, G) => .ok d G
  | none => .no
def eOp (f : O2) (ma mb : Ev → M D) : Ev → M D := fun env G => (ma env G).bind fun x G1 => (mb env G1).bind fun y G2 => lift (f x y G2)
def eUn (f : D → Gh → Option (D × Gh)) (ma : Ev → M D) : Ev → M D := fun env G => (ma env G).bind fun x G1 => lift (f x G1)
def rF (K : PySem.W.Frag) (g : Tg) (f : O2) : R2 := fun x y H Q => ∃ ρ G a b, Rep K g ρ G H ∧ RV K g ρ H a x ∧ RV K g ρ H b y ∧ ∃ d G', f a b G = some (d, G') ∧ ∀ v ρ' H', Ext ρ H ρ' H' → Rep K g ρ' G' H' → RV K g ρ' H' d v → Q v H'
abbrev OpF (X : Cx) (g : Tg) (f : Value → Value → Sem Value) (op : O2) : Prop := OpR X f (rF X.K g op)
theorem Po.lift {K : PySem.W.Frag} {g : Tg} {W : WX} {σ : St} {ρ : List Addr} {H : Hp} {o : Option (D × Gh)} {P : D → Gh → List Addr → Hp → Prop} (h : Po K g W σ ρ H (Mi.lift o) P) :
    ∃ d G', o = some (d, G') ∧ ∀ ρ' H', Ext ρ H ρ' H' → Rep K g ρ' G' H' → P d G' ρ' H' := by
  cases o with
  | none => exact h.elim
  | some p => exact ⟨p.1, p.2, rfl, h⟩
section
variable {X : Cx} {g : Tg} {W : WX} {pos : Pos} {a b c : Expr} {ma mb mc : Ev → M D}
theorem bin_run {f : O2} {σ : St} {H : Hp} {Q : VK} (h : tE X.K g W (eOp f ma mb) σ H Q) : tOp (rF X.K g f) (tE X.K g W ma) (tE X.K g W mb) σ H Q := by
  obtain ⟨ρ, env, G, R, E, h⟩ := h
  refine tE_run R E h.bind fun x G1 ρ1 H1 x1 R1 h1 v1 r1 => tE_run R1 (E.ext x1) h1.bind fun y G2 ρ2 H2 x2 R2 h2 v2 r2 => ?_
  obtain ⟨d, G', e, k⟩ := h2.lift
  exact ⟨ρ2, G2, x, y, R2, r1.ext x2, r2, d, G', e, fun v ρ' H' x3 R3 r3 => k ρ' H' x3 R3 v r3⟩
theorem fe_op {op : Operator} {f : O2} (ho : OpF X g (binaryOp op) f) (ha : FE X g W a ma) (hb : FE X g W b mb) : FE X g W (.BinOp a op b pos) (eOp f ma mb) :=
  PE.imp (pe_op ho ha hb) fun _ _ _ h => bin_run h
theorem fe_cmp {op : CmpOp} {f : O2} (ho : OpF X g (compareOp op) f) (ha : FE X g W a ma) (hb : FE X g W b mb) (hm : behindInMarks op b = false) : FE X g W (.Compare a [op] [b] pos) (eOp f ma mb) :=
  PE.imp (pe_cmpR ho ha hb hm) fun _ _ _ h => bin_run h
/-- the answer as a test -/
def asB (m : Ev → M D) : Ev → M Bool := fun env G => (m env G).bind fun d G1 => match d with
  | .bl b => .ok b G1
  | _ => .no
theorem asB_run {m : Ev → M D} {σ : St} {H : Hp} {Q : Bool → Hp → Prop} (h : tT X.K g W (asB m) σ H Q) : tTest (tE X.K g W m) σ H Q := by
  obtain ⟨ρ, env, G, R, E, h⟩ := h
  refine tE_run R E h.bind fun x G1 ρ1 H1 x1 R1 h1 v1 r1 => ?_
  cases x with
  | bl b => exact ⟨b, r1, h1.now R1⟩
  | _ => exact h1.elim
theorem ft_cmp {op : CmpOp} {f : O2} (ho : OpF X g (compareOp op) f) (ha : FE X g W a ma) (hb : FE X g W b mb) (hm : behindInMarks op b = false) : FT X g W (.Compare a [op] [b] pos) (asB (eOp f ma mb)) := by
  refine PT.imp (pt_cmpR ho ha hb hm) fun σ H Q h => ?_
  exact bin_run (asB_run h)
/-- a op b op' c -/
def eChain (f f' : O2) (ma mb mc : Ev → M D) : Ev → M D := fun env G => (ma env G).bind fun x G1 => (mb env G1).bind fun y G2 => (lift (f x y G2)).bind fun z G3 => match z with
  | .bl true => (mc env G3).bind fun w G4 => lift (f' y w G4)
  | .bl false => .ok (.bl false) G3
  | _ => .no
theorem chain_run {f f' : O2} {σ : St} {H : Hp} {Q : VK} (h : tE X.K g W (eChain f f' ma mb mc) σ H Q) : tChain (rF X.K g f) (rF X.K g f') (tE X.K g W ma) (tE X.K g W mb) (tE X.K g W mc) σ H Q := by
  obtain ⟨ρ, env, G, R, E, h⟩ := h
  refine tE_run R E h.bind fun x G1 ρ1 H1 x1 R1 h1 v1 r1 => tE_run R1 (E.ext x1) h1.bind fun y G2 ρ2 H2 x2 R2 h2 v2 r2 => ?_
  obtain ⟨d, G', e, k⟩ := h2.bind.lift
  refine ⟨ρ2, G2, x, y, R2, r1.ext x2, r2, d, G', e, fun z ρ3 H3 x3 R3 r3 => ?_⟩
  have k3 := k ρ3 H3 x3 R3
  cases d with
  | bl t =>
    refine ⟨t, r3, ?_⟩
    cases t with
    | true =>
      rw [if_pos rfl]
      refine tE_run R3 (E.ext ((x1.trans x2).trans x3)) k3.bind fun w G4 ρ4 H4 x4 R4 h4 v4 r4 => ?_
      obtain ⟨d2, G5, e2, k2⟩ := h4.lift
      exact ⟨ρ4, G4, y, w, R4, (r2.ext x3).ext x4, r4, d2, G5, e2, fun v ρ' H' x5 R5 r5 => k2 ρ' H' x5 R5 v r5⟩
    | false =>
      rw [if_neg Bool.false_ne_true]
      exact k3.now R3 _ rfl
  | _ => exact k3.elim
theorem fe_chain {op op' : CmpOp} {f f' : O2} (ho : OpF X g (compareOp op) f) (ho' : OpF X g (compareOp op') f') (ha : FE X g W a ma) (hb : FE X g W b mb) (hc : FE X g W c mc) (hm : lastMarks [op, op'] [b, c] = false := by with_unfolding_all rfl) :
    FE X g W (.Compare a [op, op'] [b, c] pos) (eChain f f' ma mb mc) := PE.imp (pe_chain ho ho' ha hb hc hm) fun _ _ _ h => chain_run h
theorem ft_chain {op op' : CmpOp} {f f' : O2} (ho : OpF X g (compareOp op) f) (ho' : OpF X g (compareOp op') f') (ha : FE X g W a ma) (hb : FE X g W b mb) (hc : FE X g W c mc) (hm : lastMarks [op, op'] [b, c] = false := by with_unfolding_all rfl) :
    FT X g W (.Compare a [op, op'] [b, c] pos) (asB (eChain f f' ma mb mc)) := PT.imp (pt_chain ho ho' ha hb hc hm) fun _ _ _ h => chain_run (asB_run h)
theorem fe_un {op : UnaryOp} {f : D → Gh → Option (D × Gh)} (ho : UnR X (unaryOp op) fun x H Q => ∃ ρ G a, Rep X.K g ρ G H ∧ RV X.K g ρ H a x ∧ ∃ d G', f a G = some (d, G') ∧ ∀ v ρ' H', Ext ρ H ρ' H' → Rep X.K g ρ' G' H' → RV X.K g ρ' H' d v → Q v H') (ha : FE X g W a ma) : FE X g W (.UnaryOp op a pos) (eUn f ma) := by
  refine PE.imp (pe_un ho ha) ?_
  rintro σ H Q ⟨ρ, env, G, R, E, h⟩
  refine tE_run R E h.bind fun x G1 ρ1 H1 x1 R1 h1 v1 r1 => ?_
  obtain ⟨d, G', e, k⟩ := h1.lift
  exact ⟨ρ1, G1, x, R1, r1, d, G', e, fun v ρ' H' x3 R3 r3 => k ρ' H' x3 R3 v r3⟩

/-! ### tests -/
def bNot (m : Ev → M Bool) : Ev → M Bool := fun env G => (m env G).bind fun b G1 => .ok (!b) G1
def bAnd (m m' : Ev → M Bool) : Ev → M Bool := fun env G => (m env G).bind fun b G1 => if b = true then m' env G1 else .ok false G1
def bOr (m m' : Ev → M Bool) : Ev → M Bool := fun env G => (m env G).bind fun b G1 => if b = true then .ok true G1 else m' env G1
variable {na nb nc : Ev → M Bool} {rest : List Expr}
theorem ft_not (ha : FT X g W a na) : FT X g W (.UnaryOp .Not a pos) (bNot na) := by
  refine PT.imp (pt_not ha) ?_
  rintro σ H Q ⟨ρ, env, G, R, E, h⟩
  exact tT_run R E h.bind fun b G1 ρ1 H1 x1 R1 h1 => h1.now R1
theorem fw_and1 (ha : FT X g W a na) : FW X g W (.BoolOp .And [a] pos) na := pw_and1 ha
theorem fw_or1 (ha : FT X g W a na) : FW X g W (.BoolOp .Or [a] pos) na := pw_or1 ha
theorem fw_and (ha : FT X g W a na) (hb : FW X g W (.BoolOp .And (b :: rest) pos) nb) : FW X g W (.BoolOp .And (a :: b :: rest) pos) (bAnd na nb) := by
  refine PW.imp (pw_and ha hb) ?_
  rintro σ H Q ⟨ρ, env, G, R, E, h⟩
  refine tT_run R E h.bind fun b G1 ρ1 H1 x1 R1 h1 => ?_
  cases b with
  | true => rw [if_pos rfl] at h1 ⊢; exact ⟨ρ1, env, G1, R1, E.ext x1, h1⟩
  | false => rw [if_neg Bool.false_ne_true] at h1 ⊢; exact h1.now R1
theorem fw_or (ha : FT X g W a na) (hb : FW X g W (.BoolOp .Or (b :: rest) pos) nb) : FW X g W (.BoolOp .Or (a :: b :: rest) pos) (bOr na nb) := by
  refine PW.imp (pw_or ha hb) ?_
  rintro σ H Q ⟨ρ, env, G, R, E, h⟩
  refine tT_run R E h.bind fun b G1 ρ1 H1 x1 R1 h1 => ?_
  cases b with
  | true => rw [if_pos rfl] at h1 ⊢; exact h1.now R1
  | false => rw [if_neg Bool.false_ne_true] at h1 ⊢; exact ⟨ρ1, env, G1, R1, E.ext x1, h1⟩
/-- a value's truth -/
def truD (d : D) (G : Gh) : Option Bool := match d with
  | .non => some false
  | .bl b => some b
  | .int i => some (i != 0)
  | .str y => if y.length ≤ sizeLine then some ((y.length : Int) != 0) else none
  | .tup xs => some (!xs.isEmpty)
  | .rol xs => some (!xs.isEmpty)
  | .ref i => (match G.ob i with
    | .lst xs => some (!xs.isEmpty)
    | .dct kvs => some (!kvs.isEmpty)
    | _ => none)
  | .cst _ => none
  | .exc _ => none
def tru (m : Ev → M D) : Ev → M Bool := fun env G => (m env G).bind fun d G1 => match truD d G1 with
  | some b => .ok b G1
  | none => .no
theorem RVs.emp {K : PySem.W.Frag} {ρ : List Addr} {H : Hp} {ds : List D} {vs : List V} (h : RVs K g ρ H ds vs) : ds.isEmpty = vs.isEmpty := by
  cases ds with
  | nil => rw [RVs] at h; subst h; rfl
  | cons d ds =>
    rw [RVs] at h
    obtain ⟨v, r, e, _, _⟩ := h
    subst e
    rfl
theorem RM.emp {K : PySem.W.Frag} {ρ : List Addr} {H : Hp} {κ κ' : Type} {f : κ → κ'} {l : List (κ × D)} {ws : List (κ' × V)} (h : RM K g ρ H f l ws) : l.isEmpty = ws.isEmpty := by
  cases l with
  | nil => rw [RM] at h; subst h; rfl
  | cons p r =>
    obtain ⟨k, d⟩ := p
    rw [RM] at h
    obtain ⟨v, q, e, _, _⟩ := h
    subst e
    rfl
theorem Rep.at' {K : PySem.W.Frag} {ρ : List Addr} {G : Gh} {H : Hp} (R : Rep K g ρ G H) {i : Nat} {a : Addr} (e : ρ[i]? = some a) : i < G.n := by
  rw [← R.len]; exact (List.getElem?_eq_some_iff.mp e).1
theorem truV_of {K : PySem.W.Frag} {ρ : List Addr} {G : Gh} {H : Hp} {d : D} {v : V} {b : Bool} (R : Rep K g ρ G H) (r : RV K g ρ H d v) (h : truD d G = some b) : TruV K v H b := by
  cases d with
  | non => cases (show v = .non from r); exact (Option.some.inj h).symm
  | bl c => cases (show v = .bl c from r); exact (Option.some.inj h).symm
  | int c => cases (show v = .int c from r); exact (Option.some.inj h).symm
  | str c =>
    cases (show v = .str c from r)
    unfold truD at h
    dsimp only at h
    split at h
    · exact ⟨by assumption, (Option.some.inj h).symm⟩
    · cases h
  | tup xs =>
    rw [RV] at r
    obtain ⟨a, vs, e, s, q⟩ := r
    subst e
    exact .inr (.inl ⟨vs, s, by rw [← q.emp]; exact (Option.some.inj h).symm⟩)
  | rol xs =>
    rw [RV] at r
    obtain ⟨a, vs, e, s, q⟩ := r
    subst e
    exact .inl ⟨vs, s.seq, by rw [← q.emp]; exact (Option.some.inj h).symm⟩
  | ref i =>
    rw [RV] at r
    obtain ⟨a, e, q⟩ := r
    subst q
    have o := R.obj i a e
    unfold truD at h
    dsimp only at h
    split at h
    · rename_i xs z
      rw [z] at o
      obtain ⟨vs, h1, h2⟩ := o
      exact .inl ⟨vs, .of h1, by rw [← h2.emp]; exact (Option.some.inj h).symm⟩
    · rename_i xs z
      rw [z] at o
      obtain ⟨vs, h1, h2, _⟩ := o
      exact .inr (.inr ⟨vs, h1, by rw [← RM.emp h2]; exact (Option.some.inj h).symm⟩)
    · cases h
  | cst c => cases h
  | exc c => cases h
theorem ft_tru (ha : FE X g W a ma) (he : ∀ whole, isTrue a X.env whole = (do let v ← whole; standAt a.pos; holding [v] (truthy v)) := by intro _; rfl) : FT X g W a (tru ma) := by
  refine PT.imp (pt_truth ha he) ?_
  rintro σ H Q ⟨ρ, env, G, R, E, h⟩
  refine tE_run R E h.bind fun d G1 ρ1 H1 x1 R1 h1 v1 r1 => ?_
  cases z : truD d G1 with
  | none => rw [z] at h1; exact h1.elim
  | some b => rw [z] at h1; exact ⟨b, truV_of R1 r1 z, h1.now R1⟩
/-! ### and, or, not, if as values -/
def eNotV (m : Ev → M D) : Ev → M D := fun env G => (tru m env G).bind fun b G1 => .ok (.bl (!b)) G1
def eAndV (m m' : Ev → M D) : Ev → M D := fun env G => (m env G).bind fun d G1 => match truD d G1 with
  | some true => m' env G1
  | some false => .ok d G1
  | none => .no
def eOrV (m m' : Ev → M D) : Ev → M D := fun env G => (m env G).bind fun d G1 => match truD d G1 with
  | some true => .ok d G1
  | some false => m' env G1
  | none => .no
def eIf (n : Ev → M Bool) (m m' : Ev → M D) : Ev → M D := fun env G => (n env G).bind fun b G1 => if b = true then m env G1 else m' env G1
theorem fe_not (ha : FE X g W a ma) : FE X g W (.UnaryOp .Not a pos) (eNotV ma) := by
  refine PE.imp (pe_notT ha) ?_
  rintro σ H Q ⟨ρ, env, G, R, E, h⟩
  refine tE_run R E h.bind.bind fun d G1 ρ1 H1 x1 R1 h1 v1 r1 => ?_
  cases z : truD d G1 with
  | none => rw [z] at h1; exact h1.elim
  | some b => rw [z] at h1; exact ⟨b, truV_of R1 r1 z, (h1.now R1).now R1 _ rfl⟩
theorem fe_and (ha : FE X g W a ma) (hb : FE X g W (.BoolOp .And (b :: rest) pos) mb) : FE X g W (.BoolOp .And (a :: b :: rest) pos) (eAndV ma mb) := by
  refine PE.imp (pe_andT ha hb) ?_
  rintro σ H Q ⟨ρ, env, G, R, E, h⟩
  refine tE_run R E h.bind fun d G1 ρ1 H1 x1 R1 h1 v1 r1 => ?_
  cases z : truD d G1 with
  | none => rw [z] at h1; exact h1.elim
  | some b =>
    refine ⟨b, truV_of R1 r1 z, ?_⟩
    cases b with
    | true => rw [z] at h1; rw [if_pos rfl]; exact ⟨ρ1, env, G1, R1, E.ext x1, h1⟩
    | false => rw [z] at h1; rw [if_neg Bool.false_ne_true]; exact h1.now R1 _ r1
theorem fe_or (ha : FE X g W a ma) (hb : FE X g W (.BoolOp .Or (b :: rest) pos) mb) : FE X g W (.BoolOp .Or (a :: b :: rest) pos) (eOrV ma mb) := by
  refine PE.imp (pe_orT ha hb) ?_
  rintro σ H Q ⟨ρ, env, G, R, E, h⟩
  refine tE_run R E h.bind fun d G1 ρ1 H1 x1 R1 h1 v1 r1 => ?_
  cases z : truD d G1 with
  | none => rw [z] at h1; exact h1.elim
  | some b =>
    refine ⟨b, truV_of R1 r1 z, ?_⟩
    cases b with
    | true => rw [z] at h1; rw [if_pos rfl]; exact h1.now R1 _ r1
    | false => rw [z] at h1; rw [if_neg Bool.false_ne_true]; exact ⟨ρ1, env, G1, R1, E.ext x1, h1⟩
theorem fe_one {op : PySem.BoolOp} (ha : FE X g W a ma) : FE X g W (.BoolOp op [a] pos) ma := pe_one ha
theorem fe_if {t : Expr} (ht : FT X g W t na) (ha : FE X g W a ma) (hb : FE X g W b mb) : FE X g W (.IfExp t a b pos) (eIf na ma mb) := by
  refine PE.imp (pe_ifExp ht ha hb) ?_
  rintro σ H Q ⟨ρ, env, G, R, E, h⟩
  refine tT_run R E h.bind fun b G1 ρ1 H1 x1 R1 h1 => ?_
  cases b with
  | true => rw [if_pos rfl] at h1 ⊢; exact ⟨ρ1, env, G1, R1, E.ext x1, h1⟩
  | false => rw [if_neg Bool.false_ne_true] at h1 ⊢; exact ⟨ρ1, env, G1, R1, E.ext x1, h1⟩

/-! ### argument lists, displays -/
def aNil : Ev → M (List D) := fun _ G => .ok [] G
def aCons (m : Ev → M D) (n : Ev → M (List D)) : Ev → M (List D) := fun env G => (m env G).bind fun d G1 => (n env G1).bind fun ds G2 => .ok (d :: ds) G2
variable {es : List Expr} {ms : Ev → M (List D)} {e : Expr}
theorem fa_nil : FA X g W [] aNil := by
  refine PA.imp pa_nil ?_
  rintro σ H Q ⟨ρ, env, G, R, E, h⟩
  exact h.now R _ .nil
theorem fa_cons (ha : FE X g W e ma) (hr : FA X g W es ms) (hs : starEach (e :: es) X.env = (false, eval e X.env) :: starEach es X.env := by rfl) : FA X g W (e :: es) (aCons ma ms) := by
  refine PA.imp (pa_cons ha hr hs) ?_
  rintro σ H Q ⟨ρ, env, G, R, E, h⟩
  refine tE_run R E h.bind fun x G1 ρ1 H1 x1 R1 h1 v1 r1 => tA_run R1 (E.ext x1) h1.bind fun xs G2 ρ2 H2 x2 R2 h2 vs r2 => ?_
  exact h2.now R2 _ (.cons (r1.ext x2) r2)
def eTup (n : Ev → M (List D)) : Ev → M D := fun env G => (n env G).bind fun ds G1 => if ds.length ≤ sizeLine then .ok (.tup ds) G1 else .no
def eLst (n : Ev → M (List D)) : Ev → M D := fun env G => (n env G).bind fun ds G1 => if ds.length ≤ sizeLine then .ok (.ref G1.n) (G1.push (.lst ds)) else .no
/-- a new tuple at p -/
theorem tup_new {K : PySem.W.Frag} {ρ : List Addr} {G : Gh} {H : Hp} {ds : List D} {vs : List V} {p : Addr} (R : Rep K g ρ G H) (r : RVs K g ρ H ds vs) (h : H p = none) :
    Ext ρ H ρ (upd H p (.tup vs)) ∧ Rep K g ρ G (upd H p (.tup vs)) ∧ RV K g ρ (upd H p (.tup vs)) (.tup ds) (.ref p) := by
  have x : Ext ρ H ρ (upd H p (.tup vs)) := ⟨fun _ _ z => z, .new h⟩
  refine ⟨x, R.grow h, ?_⟩
  rw [RV]
  exact ⟨p, vs, rfl, .of upd_same, r.ext x⟩
theorem lst_new {K : PySem.W.Frag} {ρ : List Addr} {G : Gh} {H : Hp} {ds : List D} {vs : List V} {p : Addr} (R : Rep K g ρ G H) (r : RVs K g ρ H ds vs) (h : H p = none) :
    Ext ρ H (ρ ++ [p]) (upd H p (.lst vs)) ∧ Rep K g (ρ ++ [p]) (G.push (.lst ds)) (upd H p (.lst vs)) ∧ RV K g (ρ ++ [p]) (upd H p (.lst vs)) (.ref G.n) (.ref p) := by
  have x : Ext ρ H (ρ ++ [p]) (upd H p (.lst vs)) := ⟨fun i a e => by rw [List.getElem?_append_left (List.getElem?_eq_some_iff.mp e).1]; exact e, .new h⟩
  obtain ⟨R', _, q⟩ := R.new (ob := .lst ds) h ⟨vs, upd_same, r.ext x⟩
  refine ⟨x, R', ?_⟩
  rw [RV]
  exact ⟨p, q, rfl⟩
theorem fe_tup {x1} (h : FA X g W es ms) : FE X g W (.Tuple es x1 pos) (eTup ms) := by
  refine PE.imp (pe_tup h) ?_
  rintro σ H Q ⟨ρ, env, G, R, E, h⟩
  refine tA_run R E h.bind fun ds G1 ρ1 H1 x1 R1 h1 vs r1 => ?_
  split at h1
  · rename_i hz
    refine ⟨by rw [r1.len]; exact hz, fun p hp => ?_⟩
    obtain ⟨x2, R2, r2⟩ := tup_new R1 r1 hp
    exact h1 ρ1 _ x2 R2 _ r2
  · exact h1.elim
theorem fe_lst (h : FA X g W es ms) : FE X g W (.List es pos) (eLst ms) := by
  refine PE.imp (pe_lst h) ?_
  rintro σ H Q ⟨ρ, env, G, R, E, h⟩
  refine tA_run R E h.bind fun ds G1 ρ1 H1 x1 R1 h1 vs r1 => ?_
  split at h1
  · rename_i hz
    refine ⟨by rw [r1.len]; exact hz, fun p hp => ?_⟩
    obtain ⟨x2, R2, r2⟩ := lst_new R1 r1 hp
    exact h1 _ _ x2 R2 _ r2
  · exact h1.elim
end
end Mi
/-! F, part 3: operators by values. -/
namespace Mi
open PySem PySem.Spec PyProof.Rows L2

/-! ### tables -/
section
variable {κ : Type} [DecidableEq κ]
def valD : List (κ × D) → κ → Option D
  | [], _ => none
  | (j, d) :: r, k => if j = k then some d else valD r k
def putD : List (κ × D) → κ → D → List (κ × D)
  | [], k, d => [(k, d)]
  | (j, e) :: r, k, d => if j = k then (j, d) :: r else (j, e) :: putD r k d
variable {K : PySem.W.Frag} {g : Tg} {ρ : List Addr} {H : Hp}
theorem RM.val {k : κ} : ∀ {l : List (κ × D)} {ws : List (κ × V)}, RM K g ρ H id l ws → (∀ d, valD l k = some d → ∃ v, valV ws k = some v ∧ RV K g ρ H d v) ∧ (valD l k = none → valV ws k = none)
  | [], _, h => by rw [RM] at h; subst h; exact ⟨(fun _ e => by cases e), fun _ => rfl⟩
  | (j, d) :: r, _, h => by
    rw [RM] at h
    obtain ⟨v, q, e, h1, h2⟩ := h
    subst e
    obtain ⟨i1, i2⟩ := RM.val (k := k) h2
    by_cases z : j = k
    · refine ⟨fun d' e => ⟨v, valV_pos (p := (id j, v)) z, ?_⟩, fun e => ?_⟩
      · rw [valD, if_pos z] at e; cases e; exact h1
      · rw [valD, if_pos z] at e; cases e
    · refine ⟨fun d' e => ?_, fun e => ?_⟩
      · rw [valD, if_neg z] at e
        obtain ⟨w, e1, r1⟩ := i1 d' e
        exact ⟨w, (valV_neg (p := (id j, v)) z).trans e1, r1⟩
      · rw [valD, if_neg z] at e
        exact (valV_neg (p := (id j, v)) z).trans (i2 e)
theorem RM.len {κ κ' : Type} {f : κ → κ'} : ∀ {l : List (κ × D)} {ws : List (κ' × V)}, RM K g ρ H f l ws → ws.length = l.length
  | [], _, h => by rw [RM] at h; subst h; rfl
  | (j, d) :: r, _, h => by
    rw [RM] at h
    obtain ⟨v, q, e, h1, h2⟩ := h
    subst e
    rw [List.length_cons, List.length_cons, RM.len h2]
theorem RM.some_iff {k : κ} {l : List (κ × D)} {ws : List (κ × V)} (h : RM K g ρ H id l ws) : (valV ws k).isSome = (valD l k).isSome := by
  obtain ⟨i1, i2⟩ := RM.val (k := k) h
  cases e : valD l k with
  | none => rw [i2 e] <;> rfl
  | some d => obtain ⟨v, e1, _⟩ := i1 d e; rw [e1] <;> rfl
theorem RM.putA {k : κ} {d : D} {v : V} (r : RV K g ρ H d v) : ∀ {l : List (κ × D)} {ws : List (κ × V)}, RM K g ρ H id l ws → valD l k = none → RM K g ρ H id (putD l k d) (ws ++ [(k, v)])
  | [], _, h, _ => by
    rw [RM] at h; subst h
    rw [putD, RM]
    exact ⟨v, [], rfl, r, by rw [RM]⟩
  | (j, e) :: t, _, h, n => by
    rw [RM] at h
    obtain ⟨w, q, z, h1, h2⟩ := h
    subst z
    by_cases z : j = k
    · rw [valD, if_pos z] at n; cases n
    · rw [valD, if_neg z] at n
      rw [putD, if_neg z, List.cons_append, RM]
      exact ⟨w, _, rfl, h1, RM.putA r h2 n⟩
end

/-! ### ints, texts, lists, tuples -/
def opAdd : O2 := fun x y G => match x, y with
  | .int i, .int j => some (.int (i + j), G)
  | .str a, .str b => if a.length + b.length ≤ sizeLine then some (.str (a ++ b), G) else none
  | .ref i, .ref j => (match G.ob i, G.ob j with
    | .lst xs, .lst ys => if xs.length + ys.length ≤ sizeLine then some (.ref G.n, G.push (.lst (xs ++ ys))) else none
    | _, _ => none)
  | .tup xs, .tup ys => if xs.isEmpty = false ∧ ys.isEmpty = false ∧ xs.length + ys.length ≤ sizeLine then some (.tup (xs ++ ys), G) else none
  | _, _ => none
def opSub : O2 := fun x y G => match x, y with
  | .int i, .int j => some (.int (i - j), G)
  | _, _ => none
instance (i j : Int) : Decidable (CMul i j) := inferInstanceAs (Decidable (_ ∨ _))
def opMul : O2 := fun x y G => match x, y with
  | .int i, .int j => if CMul i j then some (.int (i * j), G) else none
  | .ref i, .int k => (match G.ob i with
    | .lst xs => if -(2 ^ 63) ≤ k ∧ k < 2 ^ 63 ∧ xs.length * k.toNat ≤ sizeLine then some (.ref G.n, G.push (.lst (List.replicate k.toNat xs).flatten)) else none
    | _ => none)
  | _, _ => none
def opFdiv : O2 := fun x y G => match x, y with
  | .int i, .int j => if 0 < j ∧ j.natAbs.log2 < 9000 then some (.int (i / j), G) else none
  | _, _ => none
def opMod : O2 := fun x y G => match x, y with
  | .int i, .int j => if 0 < j then some (.int (i % j), G) else none
  | _, _ => none
def opPow : O2 := fun x y G => match x, y with
  | .int i, .int j => if 0 ≤ j ∧ j ≤ 1000000 ∧ i.natAbs < 2 ^ 64 then some (.int (i ^ j.toNat), G) else none
  | _, _ => none
def cmpO (p : Int → Int → Bool) (q : Str → Str → Bool) : O2 := fun x y G => match x, y with
  | .int i, .int j => some (.bl (p i j), G)
  | .str a, .str b => some (.bl (q a b), G)
  | _, _ => none
def opLt : O2 := cmpO (fun i j => decide (i < j)) fun a b => decide (a.cps.toList < b.cps.toList)
def opLe : O2 := cmpO (fun i j => decide (i ≤ j)) fun a b => !decide (b.cps.toList < a.cps.toList)
def opGt : O2 := cmpO (fun i j => decide (j < i)) fun a b => decide (b.cps.toList < a.cps.toList)
def opGe : O2 := cmpO (fun i j => decide (j ≤ i)) fun a b => !decide (a.cps.toList < b.cps.toList)
/-! == -/
def scalD : D → D → Option Bool
  | .non, .non => some true | .non, .int _ => some false | .int _, .non => some false | .non, .bl _ => some false | .bl _, .non => some false | .non, .str _ => some false | .str _, .non => some false
  | .int i, .int j => some (decide (i = j)) | .bl i, .bl j => some (decide (i = j)) | .str i, .str j => some (decide (i = j))
  | .int _, .str _ => some false | .str _, .int _ => some false | .bl _, .str _ => some false | .str _, .bl _ => some false
  | _, _ => none
def mapO {α β : Type} (f : α → Option β) : List α → Option (List β)
  | [] => some []
  | x :: xs => (match f x, mapO f xs with
    | some p, some ps => some (p :: ps)
    | _, _ => none)
def toP (G : Gh) : Nat → D → Option PyData
  | 0, _ => none
  | _ + 1, .non => some .none
  | _ + 1, .bl b => some (.bool b)
  | _ + 1, .int i => some (.int i)
  | _ + 1, .str x => some (.str x)
  | n + 1, .tup xs => (mapO (toP G n) xs).map .tuple
  | n + 1, .rol xs => (mapO (toP G n) xs).map .list
  | n + 1, .ref i => (match G.ob i with
    | .lst xs => (mapO (toP G n) xs).map .list
    | _ => none)
  | _ + 1, .cst _ => none
  | _ + 1, .exc _ => none
def eqD (x y : D) (G : Gh) : Option Bool := match scalD x y with
  | some b => some b
  | none => (match toP G 20 x, toP G 20 y with
    | some d, some e => if (SeqAt.shaped d && SeqAt.shaped e) = true then some (PyData.eqv d e) else none
    | _, _ => none)
def opEq : O2 := fun x y G => (eqD x y G).map fun b => (.bl b, G)
def opNe : O2 := fun x y G => (eqD x y G).map fun b => (.bl (!b), G)
def isNon : D → Bool
  | .non => true
  | _ => false
def opIs : O2 := fun x y G => match y with
  | .non => some (.bl (isNon x), G)
  | _ => none
def opIsNot : O2 := fun x y G => match y with
  | .non => some (.bl (!isNon x), G)
  | _ => none
/-! in -/
def keyD : D → Option Key
  | .int i => some (.inl i)
  | .str x => some (.inr x)
  | _ => none
/-- the flat ones -/
def flatD : D → Bool
  | .non => true | .bl _ => true | .int _ => true | .str _ => true
  | _ => false
def eqF : D → D → Bool
  | .non, .non => true
  | .bl a, .bl b => a == b
  | .bl a, .int b => (if a then 1 else 0) == b
  | .int a, .bl b => a == (if b then 1 else 0)
  | .int a, .int b => a == b
  | .str a, .str b => a == b
  | _, _ => false
def inD (x : D) (xs : List D) : Option Bool := if flatD x = true ∧ xs.all flatD = true then some (xs.any fun y => eqF y x) else none
def memD (x y : D) (G : Gh) : Option Bool := match y with
  | .str z => (match x with
    | .str c => (match c.cps.toList with
      | [n] => some (decide (n ∈ z.cps.toList))
      | _ => none)
    | _ => none)
  | .tup xs => inD x xs
  | .rol xs => inD x xs
  | .ref i => (match G.ob i with
    | .lst xs => inD x xs
    | .dct kvs => (keyD x).map fun k => (valD kvs k).isSome
    | .lk kvs => (keyD x).map fun k => (valD kvs k).isSome
    | _ => none)
  | _ => none
def opIn : O2 := fun x y G => (memD x y G).map fun b => (.bl b, G)
def opNotIn : O2 := fun x y G => (memD x y G).map fun b => (.bl (!b), G)

/-! ### they are what Python does -/
section
variable {X : Cx} {g : Tg}
theorem of_add : OpF X g (binaryOp .Add) opAdd := by
  intro pins s σ H x y v u Q I rx ry hh
  obtain ⟨ρ, G, a, b, R, ra, rb, d, G', e, k⟩ := hh
  unfold opAdd at e
  split at e
  · cases (show x = .int _ from ra); cases (show y = .int _ from rb); cases e
    exact op_add pins s σ H _ _ v u Q I rx ry ⟨_, _, rfl, rfl, k _ ρ H (.refl _ _) R rfl⟩
  · cases (show x = .str _ from ra); cases (show y = .str _ from rb)
    split at e
    · cases e
      exact op_add_str pins s σ H _ _ v u Q I rx ry ⟨_, _, rfl, rfl, by assumption, k _ ρ H (.refl _ _) R rfl⟩
    · cases e
  · rename_i i j
    rw [RV] at ra rb
    obtain ⟨a1, e1, q1⟩ := ra
    obtain ⟨a2, e2, q2⟩ := rb
    subst q1; subst q2
    have o1 := R.obj _ _ e1
    have o2 := R.obj _ _ e2
    split at e
    · rename_i xs ys z1 z2
      rw [z1] at o1; rw [z2] at o2
      obtain ⟨vs, h1, r1⟩ := o1
      obtain ⟨ws, h2, r2⟩ := o2
      split at e
      · rename_i hz
        cases e
        refine op_cat pins s σ H _ _ v u Q I rx ry ⟨a1, a2, vs, ws, rfl, rfl, h1, h2, by rw [r1.len, r2.len]; exact hz, fun p hp => ?_⟩
        obtain ⟨x2, R2, r3⟩ := lst_new R (r1.app r2) hp
        exact k _ _ _ x2 R2 r3
      · cases e
    · cases e
  · rename_i xs ys
    rw [RV] at ra rb
    obtain ⟨a1, vs, q1, s1, r1⟩ := ra
    obtain ⟨a2, ws, q2, s2, r2⟩ := rb
    subst q1; subst q2
    split at e
    · rename_i hz
      cases e
      have n1 : vs.isEmpty = false := by rw [← r1.emp]; exact hz.1
      have n2 : ws.isEmpty = false := by rw [← r2.emp]; exact hz.2.1
      refine op_catT pins s σ H _ _ v u Q I rx ry ⟨a1, a2, vs, ws, rfl, rfl, s1, s2, ?_, by rw [r1.len, r2.len]; exact hz.2.2, fun q => ?_, fun _ p hp => ?_⟩
      · intro q; subst q; cases n1
      · subst q; cases n2
      · obtain ⟨x2, R2, r3⟩ := tup_new R (r1.app r2) hp
        exact k _ _ _ x2 R2 r3
    · cases e
  · cases e
theorem of_sub : OpF X g (binaryOp .Sub) opSub := by
  intro pins s σ H x y v u Q I rx ry hh
  obtain ⟨ρ, G, a, b, R, ra, rb, d, G', e, k⟩ := hh
  unfold opSub at e
  split at e
  · cases (show x = .int _ from ra); cases (show y = .int _ from rb); cases e
    exact op_sub pins s σ H _ _ v u Q I rx ry ⟨_, _, rfl, rfl, k _ ρ H (.refl _ _) R rfl⟩
  · cases e
theorem of_mul : OpF X g (binaryOp .Mult) opMul := by
  intro pins s σ H x y v u Q I rx ry hh
  obtain ⟨ρ, G, a, b, R, ra, rb, d, G', e, k⟩ := hh
  unfold opMul at e
  split at e
  · cases (show x = .int _ from ra); cases (show y = .int _ from rb)
    split at e
    · cases e
      exact op_mul pins s σ H _ _ v u Q I rx ry ⟨_, _, rfl, rfl, by assumption, k _ ρ H (.refl _ _) R rfl⟩
    · cases e
  · rename_i i j
    rw [RV] at ra
    obtain ⟨a1, e1, q1⟩ := ra
    subst q1
    cases (show y = .int _ from rb)
    have o1 := R.obj _ _ e1
    split at e
    · rename_i xs z1
      rw [z1] at o1
      obtain ⟨vs, h1, r1⟩ := o1
      split at e
      · rename_i hz
        cases e
        refine op_rep pins s σ H _ _ v u Q I rx ry ⟨a1, j, vs, rfl, rfl, h1, hz.1, hz.2.1, by rw [r1.len]; exact hz.2.2, fun p hp => ?_⟩
        have r3 : ∀ m : Nat, RVs X.K g ρ H (List.replicate m xs).flatten (List.replicate m vs).flatten := fun m => by
          induction m with
          | zero => exact .nil
          | succ m ih =>
            rw [List.replicate_succ, List.replicate_succ, List.flatten_cons, List.flatten_cons]
            exact r1.app ih
        obtain ⟨x2, R2, r4⟩ := lst_new R (r3 j.toNat) hp
        exact k _ _ _ x2 R2 r4
      · cases e
    · cases e
  · cases e
theorem of_fdiv : OpF X g (binaryOp .FloorDiv) opFdiv := by
  intro pins s σ H x y v u Q I rx ry hh
  obtain ⟨ρ, G, a, b, R, ra, rb, d, G', e, k⟩ := hh
  unfold opFdiv at e
  split at e
  · cases (show x = .int _ from ra); cases (show y = .int _ from rb)
    split at e
    · cases e
      exact op_fdivW pins s σ H _ _ v u Q I rx ry ⟨_, _, rfl, rfl, by assumption, k _ ρ H (.refl _ _) R rfl⟩
    · cases e
  · cases e
theorem of_mod : OpF X g (binaryOp .Mod) opMod := by
  intro pins s σ H x y v u Q I rx ry hh
  obtain ⟨ρ, G, a, b, R, ra, rb, d, G', e, k⟩ := hh
  unfold opMod at e
  split at e
  · cases (show x = .int _ from ra); cases (show y = .int _ from rb)
    split at e
    · cases e
      exact op_mod pins s σ H _ _ v u Q I rx ry ⟨_, _, rfl, rfl, by assumption, k _ ρ H (.refl _ _) R rfl⟩
    · cases e
  · cases e
theorem of_pow : OpF X g (binaryOp .Pow) opPow := by
  intro pins s σ H x y v u Q I rx ry hh
  obtain ⟨ρ, G, a, b, R, ra, rb, d, G', e, k⟩ := hh
  unfold opPow at e
  split at e
  · cases (show x = .int _ from ra); cases (show y = .int _ from rb)
    split at e
    · cases e
      exact op_pow pins s σ H _ _ v u Q I rx ry ⟨_, _, rfl, rfl, by assumption, k _ ρ H (.refl _ _) R rfl⟩
    · cases e
  · cases e
theorem of_cmpO {f : Value → Value → Sem Value} {p : Int → Int → Bool} {q : Str → Str → Bool} (h1 : OpR X f (rI0 fun i j => .bl (p i j))) (h2 : OpR X f (fun x y H Q => ∃ i j, x = .str i ∧ y = .str j ∧ Q (.bl (q i j)) H)) : OpF X g f (cmpO p q) := by
  intro pins s σ H x y v u Q I rx ry hh
  obtain ⟨ρ, G, a, b, R, ra, rb, d, G', e, k⟩ := hh
  unfold cmpO at e
  split at e
  · cases (show x = .int _ from ra); cases (show y = .int _ from rb); cases e
    exact h1 pins s σ H _ _ v u Q I rx ry ⟨_, _, rfl, rfl, k _ ρ H (.refl _ _) R rfl⟩
  · cases (show x = .str _ from ra); cases (show y = .str _ from rb); cases e
    exact h2 pins s σ H _ _ v u Q I rx ry ⟨_, _, rfl, rfl, k _ ρ H (.refl _ _) R rfl⟩
  · cases e
theorem of_lt : OpF X g (compareOp .Lt) opLt := of_cmpO op_lt op_lt_str
theorem of_le : OpF X g (compareOp .LtE) opLe := of_cmpO op_le op_le_str
theorem of_gt : OpF X g (compareOp .Gt) opGt := of_cmpO op_gt op_gt_str
theorem of_ge : OpF X g (compareOp .GtE) opGe := of_cmpO op_ge op_ge_str
/-! == -/
theorem scal_of {K : PySem.W.Frag} {ρ : List Addr} {H : Hp} {a b : D} {x y : V} {c : Bool} (ra : RV K g ρ H a x) (rb : RV K g ρ H b y) (e : scalD a b = some c) : scal x y = true ∧ decide (x = y) = c := by
  unfold scalD at e
  split at e <;> first
    | (cases e; done)
    | (cases e
       first
         | (cases (show x = .non from ra)) | (cases (show x = .int _ from ra)) | (cases (show x = .bl _ from ra)) | (cases (show x = .str _ from ra))
       first
         | (cases (show y = .non from rb)) | (cases (show y = .int _ from rb)) | (cases (show y = .bl _ from rb)) | (cases (show y = .str _ from rb))
       exact ⟨rfl, by simp⟩)
theorem mapO_ok {K : PySem.W.Frag} {ρ : List Addr} {H : Hp} {f : D → Option PyData} (hf : ∀ d v p, RV K g ρ H d v → f d = some p → Dp K H v p) : ∀ ds vs ps, RVs K g ρ H ds vs → mapO f ds = some ps → DpAll K H vs ps
  | [], vs, ps, r, e => by cases e; rw [RVs] at r; subst r; exact .nil
  | d :: ds, vs, ps, r, e => by
    rw [RVs] at r
    obtain ⟨v, w, q, r1, r2⟩ := r
    subst q
    rw [mapO] at e
    split at e
    · rename_i p ps' e1 e2
      cases e
      exact .cons (hf _ _ _ r1 e1) (mapO_ok hf ds _ _ r2 e2)
    · cases e
theorem toP_ok {K : PySem.W.Frag} {ρ : List Addr} {G : Gh} {H : Hp} (R : Rep K g ρ G H) : ∀ (n : Nat) d v p, RV K g ρ H d v → toP G n d = some p → Dp K H v p := by
  intro n
  induction n with
  | zero => intro d v p _ e; cases d <;> cases e
  | succ n ih =>
    intro d v p r e
    cases d with
    | non => cases e; cases (show v = .non from r); exact .non
    | bl b => cases e; cases (show v = .bl b from r); exact .bl b
    | int b => cases e; cases (show v = .int b from r); exact .int b
    | str b => cases e; cases (show v = .str b from r); exact .str b
    | tup xs =>
      rw [toP] at e
      obtain ⟨ps, e1, e2⟩ := Option.map_eq_some_iff.mp e
      subst e2
      rw [RV] at r
      obtain ⟨a, vs, q, s, r1⟩ := r
      subst q
      exact .tup s (mapO_ok ih _ _ _ r1 e1)
    | rol xs =>
      rw [toP] at e
      obtain ⟨ps, e1, e2⟩ := Option.map_eq_some_iff.mp e
      subst e2
      rw [RV] at r
      obtain ⟨a, vs, q, s, r1⟩ := r
      subst q
      exact .lst s.seq (mapO_ok ih _ _ _ r1 e1)
    | ref i =>
      rw [toP] at e
      rw [RV] at r
      obtain ⟨a, q, z⟩ := r
      subst z
      have o := R.obj _ _ q
      split at e
      · rename_i xs z
        rw [z] at o
        obtain ⟨vs, h1, r1⟩ := o
        obtain ⟨ps, e1, e2⟩ := Option.map_eq_some_iff.mp e
        subst e2
        exact .lst (.of h1) (mapO_ok ih _ _ _ r1 e1)
      · cases e
    | cst c => cases e
    | exc c => cases e
theorem of_eq (hu : X.A.units + 64 < cLine) : OpF X g (compareOp .Eq) opEq := by
  intro pins s σ H x y v u Q I rx ry hh
  obtain ⟨ρ, G, a, b, R, ra, rb, d, G', e, k⟩ := hh
  unfold opEq at e
  obtain ⟨c, e1, e2⟩ := Option.map_eq_some_iff.mp e
  cases e2
  have kk := k (.bl c) ρ H (.refl _ _) R rfl
  unfold eqD at e1
  split at e1
  · rename_i c' z
    cases e1
    obtain ⟨h1, h2⟩ := scal_of ra rb z
    exact op_eq pins s σ H _ _ v u Q I rx ry ⟨h1, by rw [h2]; exact kk⟩
  · split at e1
    · rename_i d1 d2 z1 z2
      split at e1
      · rename_i hs
        cases e1
        obtain ⟨s1, s2⟩ := Bool.and_eq_true_iff.mp hs
        exact op_eqD hu pins s σ H _ _ v u Q I rx ry ⟨d1, d2, toP_ok R 20 _ _ _ ra z1, toP_ok R 20 _ _ _ rb z2, s1, s2, kk⟩
      · cases e1
    · cases e1
theorem of_ne (hu : X.A.units + 64 < cLine) : OpF X g (compareOp .NotEq) opNe := by
  intro pins s σ H x y v u Q I rx ry hh
  obtain ⟨ρ, G, a, b, R, ra, rb, d, G', e, k⟩ := hh
  unfold opNe at e
  obtain ⟨c, e1, e2⟩ := Option.map_eq_some_iff.mp e
  cases e2
  have kk := k (.bl (!c)) ρ H (.refl _ _) R rfl
  unfold eqD at e1
  split at e1
  · rename_i c' z
    cases e1
    obtain ⟨h1, h2⟩ := scal_of ra rb z
    exact op_ne pins s σ H _ _ v u Q I rx ry ⟨h1, by rw [h2]; exact kk⟩
  · split at e1
    · rename_i d1 d2 z1 z2
      split at e1
      · rename_i hs
        cases e1
        obtain ⟨s1, s2⟩ := Bool.and_eq_true_iff.mp hs
        exact op_neD hu pins s σ H _ _ v u Q I rx ry ⟨d1, d2, toP_ok R 20 _ _ _ ra z1, toP_ok R 20 _ _ _ rb z2, s1, s2, kk⟩
      · cases e1
    · cases e1
theorem isNon_of {K : PySem.W.Frag} {ρ : List Addr} {H : Hp} {a : D} {x : V} (ra : RV K g ρ H a x) : isNon a = decide (x = .non) := by
  cases a with
  | non => cases (show x = .non from ra); rfl
  | bl b => cases (show x = .bl b from ra); rfl
  | int b => cases (show x = .int b from ra); rfl
  | str b => cases (show x = .str b from ra); rfl
  | tup xs => rw [RV] at ra; obtain ⟨_, _, q, _⟩ := ra; subst q; rfl
  | rol xs => rw [RV] at ra; obtain ⟨_, _, q, _⟩ := ra; subst q; rfl
  | ref i => rw [RV] at ra; obtain ⟨_, _, q⟩ := ra; subst q; rfl
  | cst c => cases (show x = .ref _ from ra); rfl
  | exc c => cases (show x = .ref _ from ra); rfl
theorem of_is : OpF X g (compareOp .Is) opIs := by
  intro pins s σ H x y v u Q I rx ry hh
  obtain ⟨ρ, G, a, b, R, ra, rb, d, G', e, k⟩ := hh
  unfold opIs at e
  split at e
  · cases e
    exact op_isN pins s σ H _ _ v u Q I rx ry ⟨rb, by rw [← isNon_of ra]; exact k _ ρ H (.refl _ _) R rfl⟩
  · cases e
theorem of_isNot : OpF X g (compareOp .IsNot) opIsNot := by
  intro pins s σ H x y v u Q I rx ry hh
  obtain ⟨ρ, G, a, b, R, ra, rb, d, G', e, k⟩ := hh
  unfold opIsNot at e
  split at e
  · cases e
    exact op_notN pins s σ H _ _ v u Q I rx ry ⟨rb, by rw [← isNon_of ra]; exact k _ ρ H (.refl _ _) R rfl⟩
  · cases e
/-! in -/
theorem flat_of {K : PySem.W.Frag} {ρ : List Addr} {H : Hp} {a : D} {x : V} (ra : RV K g ρ H a x) (h : flatD a = true) : flatV x = true := by
  cases a with
  | non => cases (show x = .non from ra); rfl
  | bl b => cases (show x = .bl b from ra); rfl
  | int b => cases (show x = .int b from ra); rfl
  | str b => cases (show x = .str b from ra); rfl
  | _ => cases h
theorem eqF_of {K : PySem.W.Frag} {ρ : List Addr} {H : Hp} {a b : D} {x y : V} (ra : RV K g ρ H a x) (rb : RV K g ρ H b y) (h : flatD a = true) (h2 : flatD b = true) : eqV x y = eqF a b := by
  cases a <;> first
    | (cases h; done)
    | (cases b <;> first
        | (cases h2; done)
        | (first
            | (cases (show x = .non from ra)) | (cases (show x = .int _ from ra)) | (cases (show x = .bl _ from ra)) | (cases (show x = .str _ from ra))
           first
            | (cases (show y = .non from rb)) | (cases (show y = .int _ from rb)) | (cases (show y = .bl _ from rb)) | (cases (show y = .str _ from rb))
           rfl))
theorem inD_of {K : PySem.W.Frag} {ρ : List Addr} {H : Hp} {a : D} {x : V} {c : Bool} (ra : RV K g ρ H a x) : ∀ {xs : List D} {vs : List V}, RVs K g ρ H xs vs → inD a xs = some c → flatV x = true ∧ vs.all flatV = true ∧ inV x vs = c := by
  intro xs vs r h
  unfold inD at h
  split at h
  · rename_i hf
    obtain ⟨f1, f2⟩ := hf
    have h1 := Option.some.inj h
    subst h1
    refine ⟨flat_of ra f1, ?_⟩
    clear h
    induction xs generalizing vs with
    | nil => rw [RVs] at r; subst r; exact ⟨rfl, rfl⟩
    | cons d ds ih =>
      rw [RVs] at r
      obtain ⟨v, w, q, r1, r2⟩ := r
      subst q
      rw [List.all_cons, Bool.and_eq_true] at f2
      obtain ⟨i1, i2⟩ := ih r2 f2.2
      refine ⟨by rw [List.all_cons, flat_of r1 f2.1, i1]; rfl, ?_⟩
      show (eqV v x || inV x w) = (eqF d a || ds.any fun y => eqF y a)
      rw [eqF_of r1 ra f2.1 f1, i2]
  · cases h
theorem key_of' {K : PySem.W.Frag} {ρ : List Addr} {H : Hp} {a : D} {x : V} {k : Key} (ra : RV K g ρ H a x) (h : keyD a = some k) : x = kV k := by
  cases a with
  | int b => cases (show x = .int b from ra); cases h; rfl
  | str b => cases (show x = .str b from ra); cases h; rfl
  | _ => cases h
theorem op_din (hu : X.A.units + 1 < cLine) : OpR X (compareOp .In) (fun y x H Q => ∃ a o, x = .ref a ∧ DGet H a y o ∧ Q (.bl o.isSome) H) := by
  intro pins s σ H x y v u Q I rx ry h
  obtain ⟨a, o, e, hg, q⟩ := h
  subst e
  obtain rfl : u = Value.ref a := ry
  exact d_in hu I hg rx fun s3 I3 => ⟨.bl o.isSome, H, I3, rfl, q⟩
theorem op_dnotin (hu : X.A.units + 1 < cLine) : OpR X (compareOp .NotIn) (fun y x H Q => ∃ a o, x = .ref a ∧ DGet H a y o ∧ Q (.bl (!o.isSome)) H) := by
  intro pins s σ H x y v u Q I rx ry h
  obtain ⟨a, o, e, hg, q⟩ := h
  subst e
  obtain rfl : u = Value.ref a := ry
  exact d_notIn hu I hg rx fun s3 I3 => ⟨.bl (!o.isSome), H, I3, rfl, q⟩
theorem of_mem {f : Value → Value → Sem Value} {n : Bool → Bool} (h1 : OpR X f fun x y H Q => ∃ (c : Nat) (z : Str), x = .str ⟨#[c]⟩ ∧ y = .str z ∧ Q (.bl (n (decide (c ∈ z.cps.toList)))) H)
    (h2 : OpR X f fun x y H Q => ∃ p xs, y = .ref p ∧ (SqL X.K H p xs ∨ SqT X.K H p xs) ∧ flatV x = true ∧ xs.all flatV = true ∧ Q (.bl (n (inV x xs))) H)
    (h3 : OpR X f fun y x H Q => ∃ a o, x = .ref a ∧ DGet H a y o ∧ Q (.bl (n o.isSome)) H) : OpF X g f (fun x y G => (memD x y G).map fun b => (.bl (n b), G)) := by
  intro pins s σ H x y v u Q I rx ry hh
  obtain ⟨ρ, G, a, b, R, ra, rb, d, G', e, k⟩ := hh
  obtain ⟨c, e1, e2⟩ := Option.map_eq_some_iff.mp e
  cases e2
  have kk := k (.bl (n c)) ρ H (.refl _ _) R rfl
  unfold memD at e1
  split at e1
  · cases (show y = .str _ from rb)
    split at e1
    · rename_i z _ cc
      cases (show x = .str _ from ra)
      split at e1
      · rename_i m hm
        cases e1
        refine h1 pins s σ H _ _ v u Q I rx ry ⟨m, _, ?_, rfl, kk⟩
        obtain ⟨⟨l⟩⟩ := cc
        have hm' : l = [m] := hm
        rw [hm']
      · cases e1
    · cases e1
  · rw [RV] at rb
    obtain ⟨p, vs, q, sq, r⟩ := rb
    subst q
    obtain ⟨f1, f2, f3⟩ := inD_of ra r e1
    exact h2 pins s σ H _ _ v u Q I rx ry ⟨p, vs, rfl, .inr sq, f1, f2, by rw [f3]; exact kk⟩
  · rw [RV] at rb
    obtain ⟨p, vs, q, sq, r⟩ := rb
    subst q
    obtain ⟨f1, f2, f3⟩ := inD_of ra r e1
    exact h2 pins s σ H _ _ v u Q I rx ry ⟨p, vs, rfl, .inl sq.seq, f1, f2, by rw [f3]; exact kk⟩
  · rw [RV] at rb
    obtain ⟨p, q, z⟩ := rb
    subst z
    have o := R.obj _ _ q
    split at e1
    · rename_i xs z
      rw [z] at o
      obtain ⟨vs, hp, r⟩ := o
      obtain ⟨f1, f2, f3⟩ := inD_of ra r e1
      exact h2 pins s σ H _ _ v u Q I rx ry ⟨p, vs, rfl, .inl (.of hp), f1, f2, by rw [f3]; exact kk⟩
    · rename_i kvs z
      rw [z] at o
      obtain ⟨ws, hp, r, _⟩ := o
      obtain ⟨kk', z1, z2⟩ := Option.map_eq_some_iff.mp e1
      subst z2
      exact h3 pins s σ H _ _ v u Q I rx ry ⟨p, valV ws kk', rfl, .inl ⟨ws, kk', .inl hp, key_of' ra z1, rfl⟩, by rw [RM.some_iff r]; exact kk⟩
    · rename_i kvs z
      rw [z] at o
      obtain ⟨ob, ws, hp, r, _⟩ := o
      obtain ⟨kk', z1, z2⟩ := Option.map_eq_some_iff.mp e1
      subst z2
      exact h3 pins s σ H _ _ v u Q I rx ry ⟨p, valV ws kk', rfl, .inl ⟨ws, kk', .inr ⟨ob, hp⟩, key_of' ra z1, rfl⟩, by rw [RM.some_iff r]; exact kk⟩
    · cases e1
  · cases e1
theorem of_in (hu : X.A.units + 1 < cLine) : OpF X g (compareOp .In) opIn := of_mem (n := fun b => b) op_in_sign op_in_seq (op_din hu)
theorem of_notIn (hu : X.A.units + 1 < cLine) : OpF X g (compareOp .NotIn) opNotIn := of_mem (n := fun b => !b) op_notIn_sign op_notIn_seq (op_dnotin hu)
end
end Mi
/-! F, part 4: fields, subscripts, slices, calls. -/
namespace Mi
open PySem PySem.Spec PyProof.Rows L2

/-! ### fields -/
/-- the numbers of the fields stand for different names -/
def FnInj (g : Tg) : Prop := ∀ i j, g.fn i = g.fn j → i = j
/-- na c f: the class c is plain, and no attribute of it bears the name of the field f -/
def NaOk (K : PySem.W.Frag) (g : Tg) (na : Nat → Nat → Bool) : Prop := ∀ c f, na c f = true → Cls K (g.ca c) ∧ NoAttr K (g.ca c) (g.fn f)
section
variable {K : PySem.W.Frag} {g : Tg} {ρ : List Addr} {H : Hp}
theorem RM.fld (hi : FnInj g) {f : Nat} : ∀ {l : List (Nat × D)} {ws : List (Str × V)} {d : D}, RM K g ρ H g.fn l ws → valD l f = some d → ∃ v, ws.lookup (g.fn f) = some v ∧ RV K g ρ H d v
  | [], _, _, _, e => by cases e
  | (j, d) :: r, _, d', h, e => by
    rw [RM] at h
    obtain ⟨v, q, z, h1, h2⟩ := h
    subst z
    by_cases z : j = f
    · rw [valD, if_pos z] at e; cases e
      subst z
      exact ⟨v, by simp [List.lookup], h1⟩
    · rw [valD, if_neg z] at e
      obtain ⟨w, e1, r1⟩ := RM.fld hi h2 e
      have n : (g.fn f == g.fn j) = false := beq_eq_false_iff_ne.mpr fun q => z (hi _ _ q).symm
      exact ⟨w, by rw [List.lookup_cons, n]; exact e1, r1⟩
theorem RM.putF (hi : FnInj g) {f : Nat} {d : D} {v : V} (r : RV K g ρ H d v) : ∀ {l : List (Nat × D)} {ws : List (Str × V)}, RM K g ρ H g.fn l ws → RM K g ρ H g.fn (putD l f d) (L2.putF (g.fn f) v ws)
  | [], _, h => by
    rw [RM] at h; subst h
    rw [putD, RM]
    exact ⟨v, [], rfl, r, by rw [RM]⟩
  | (j, e) :: t, _, h => by
    rw [RM] at h
    obtain ⟨w, q, z, h1, h2⟩ := h
    subst z
    by_cases z : j = f
    · subst z
      rw [putD, if_pos rfl, L2.putF, if_pos rfl, RM]
      exact ⟨v, q, rfl, r, h2⟩
    · have n : ¬ g.fn j = g.fn f := fun q => z (hi _ _ q)
      rw [putD, if_neg z, L2.putF, if_neg n, RM]
      exact ⟨w, _, rfl, h1, RM.putF hi r h2⟩
end
def fldO (na : Nat → Nat → Bool) (f : Nat) (d : D) (G : Gh) : Option D := match d with
  | .ref i => (match G.ob i with
    | .ins c fs => if na c f = true then valD fs f else none
    | _ => none)
  | _ => none
def eFld (na : Nat → Nat → Bool) (f : Nat) (ma : Ev → M D) : Ev → M D := fun env G => (ma env G).bind fun d G1 => match fldO na f d G1 with
  | some v => .ok v G1
  | none => .no
section
variable {X : Cx} {g : Tg} {W : WX} {pos : Pos} {a b e o : Expr} {ma mb mo : Ev → M D} {na : Nat → Nat → Bool}
theorem fe_fld {f : Nat} {x : Str} (hx : g.fn f = x) (hi : FnInj g) (hn : NaOk X.K g na) (ha : FE X g W a ma) (hb : attributeBase a x X.env (eval a X.env) = eval a X.env := by rfl) : FE X g W (.Attribute a x pos) (eFld na f ma) := by
  refine PE.imp (pe_fld ha hb) ?_
  rintro σ H Q ⟨ρ, env, G, R, E, h⟩
  refine tE_run R E h.bind fun d G1 ρ1 H1 x1 R1 h1 v1 r1 => ?_
  unfold fldO at h1
  split at h1
  · rename_i w z
    split at z
    · rename_i i
      split at z
      · rename_i c fs ho
        split at z
        · rename_i hc
          obtain ⟨c1, c2⟩ := hn c f hc
          rw [RV] at r1
          obtain ⟨p, e1, e2⟩ := r1
          subst e2
          have o1 := R1.obj _ _ e1
          rw [ho] at o1
          obtain ⟨dx, ws, hp, rm⟩ := o1
          obtain ⟨u, l, ru⟩ := RM.fld hi rm z
          rw [hx] at l c2
          exact ⟨p, _, dx, ws, u, rfl, hp, c1, c2, l, h1.now R1 u ru⟩
        · cases z
      · cases z
    · cases z
  · exact h1.elim

/-! ### subscripts -/
def ixD (x y : D) (G : Gh) : Option D := match x with
  | .tup xs => (match y with
    | .int i => atI xs i
    | _ => none)
  | .rol xs => (match y with
    | .int i => atI xs i
    | _ => none)
  | .str z => (match y with
    | .int i => if z.length ≤ sizeLine then (atI z.cps.toList i).map fun c => .str ⟨#[c]⟩ else none
    | _ => none)
  | .ref l => (match G.ob l with
    | .lst xs => (match y with
      | .int i => atI xs i
      | _ => none)
    | .dct kvs => (keyD y).bind fun k => valD kvs k
    | .lk kvs => (keyD y).bind fun k => valD kvs k
    | _ => none)
  | _ => none
def opIx : O2 := fun x y G => (ixD x y G).map fun d => (d, G)
theorem ix_dict (hu : X.A.units + 1 < cLine) : IxR X (fun x y H Q => ∃ a v, x = .ref a ∧ DGet H a y (some v) ∧ Q v H) := by
  intro value slice pins s σ H x y v u Q I rx ry h hs
  obtain ⟨p, w, q1, hg, q⟩ := h
  subst q1
  obtain rfl : v = Value.ref p := rx
  exact tail_any (dict_typeIs I hg) PySem.F.slot_dict_getitem.lookup (d_getItem hu I hg ry fun w' s3 I3 rw' => ⟨w, H, I3, rw', q⟩) hs
theorem RVs.atI {K : PySem.W.Frag} {ρ : List Addr} {H : Hp} {xs : List D} {vs : List V} {i : Int} {d : D} (r : RVs K g ρ H xs vs) (h : L2.atI xs i = some d) : ∃ v, L2.atI vs i = some v ∧ RV K g ρ H d v := by
  unfold L2.atI at h ⊢
  rw [r.len]
  cases z : ixN xs.length i with
  | none => rw [z] at h; cases h
  | some j =>
    rw [z] at h
    exact r.get (i := j) h
theorem of_ix (hu : X.A.units + 1 < cLine) : IxR X (rF X.K g opIx) := by
  intro value slice pins s σ H x y v u Q I rx ry hh hs
  obtain ⟨ρ, G, a, b, R, ra, rb, d, G', e, k⟩ := hh
  unfold opIx at e
  obtain ⟨c, e1, e2⟩ := Option.map_eq_some_iff.mp e
  cases e2
  have kk := fun v r => k v ρ H (.refl _ _) R r
  unfold ixD at e1
  split at e1
  · rename_i xs
    split at e1
    · cases (show y = .int _ from rb)
      rw [RV] at ra
      obtain ⟨p, vs, q, sq, r⟩ := ra
      subst q
      obtain ⟨w, ew, rw'⟩ := RVs.atI r e1
      exact ix_tup value slice pins s σ H _ _ v u Q I rx ry ⟨p, vs, _, w, rfl, rfl, sq, ew, kk w rw'⟩ hs
    · cases e1
  · split at e1
    · cases (show y = .int _ from rb)
      rw [RV] at ra
      obtain ⟨p, vs, q, sq, r⟩ := ra
      subst q
      obtain ⟨w, ew, rw'⟩ := RVs.atI r e1
      exact ix_list value slice pins s σ H _ _ v u Q I rx ry ⟨p, vs, _, w, rfl, rfl, sq.seq, ew, kk w rw'⟩ hs
    · cases e1
  · split at e1
    · cases (show y = .int _ from rb)
      cases (show x = .str _ from ra)
      split at e1
      · rename_i hz
        obtain ⟨m, em, z⟩ := Option.map_eq_some_iff.mp e1
        subst z
        exact ix_str value slice pins s σ H _ _ v u Q I rx ry ⟨_, _, m, rfl, rfl, hz, em, kk _ rfl⟩ hs
      · cases e1
    · cases e1
  · rw [RV] at ra
    obtain ⟨p, q, z⟩ := ra
    subst z
    have o := R.obj _ _ q
    split at e1
    · rename_i xs z
      rw [z] at o
      obtain ⟨vs, hp, r⟩ := o
      split at e1
      · cases (show y = .int _ from rb)
        obtain ⟨w, ew, rw'⟩ := RVs.atI r e1
        exact ix_list value slice pins s σ H _ _ v u Q I rx ry ⟨p, vs, _, w, rfl, rfl, .of hp, ew, kk w rw'⟩ hs
      · cases e1
    · rename_i kvs z
      rw [z] at o
      obtain ⟨ws, hp, r, _⟩ := o
      obtain ⟨kk', z1, z2⟩ := Option.bind_eq_some_iff.mp e1
      obtain ⟨w, ew, rw'⟩ := (RM.val r).1 _ z2
      exact ix_dict hu value slice pins s σ H _ _ v u Q I rx ry ⟨p, w, rfl, .inl ⟨ws, kk', .inl hp, key_of' rb z1, ew.symm⟩, kk w rw'⟩ hs
    · rename_i kvs z
      rw [z] at o
      obtain ⟨ob, ws, hp, r, _⟩ := o
      obtain ⟨kk', z1, z2⟩ := Option.bind_eq_some_iff.mp e1
      obtain ⟨w, ew, rw'⟩ := (RM.val r).1 _ z2
      exact ix_dict hu value slice pins s σ H _ _ v u Q I rx ry ⟨p, w, rfl, .inl ⟨ws, kk', .inr ⟨ob, hp⟩, key_of' rb z1, ew.symm⟩, kk w rw'⟩ hs
    · cases e1
  · cases e1
theorem fe_ix (hu : X.A.units + 1 < cLine) (ha : FE X g W a ma) (hb : FE X g W b mb) (hs : PlainIx b := by intro _ _; rfl) : FE X g W (.Subscript a b pos) (eOp opIx ma mb) :=
  PE.imp (pe_ix (of_ix hu) ha hb hs) fun _ _ _ h => bin_run h

/-! ### slices -/
def pNone : Ev → M (Option Int) := fun _ G => .ok none G
def pSome (m : Ev → M D) : Ev → M (Option Int) := fun env G => (m env G).bind fun d G1 => match d with
  | .int i => .ok (some i) G1
  | _ => .no
theorem fo_none : FO X g W none pNone := by
  refine PO.imp po_none ?_
  rintro σ H Q ⟨ρ, env, G, R, E, h⟩
  exact h.now R
theorem fo_some (ha : FE X g W a ma) : FO X g W (some a) (pSome ma) := by
  refine PO.imp (po_some ha) ?_
  rintro σ H Q ⟨ρ, env, G, R, E, h⟩
  refine tE_run R E h.bind fun d G1 ρ1 H1 x1 R1 h1 v1 r1 => ?_
  cases d with
  | int i => exact ⟨i, r1, h1.now R1⟩
  | _ => exact h1.elim
def cutD {α : Type} (xs : List α) (lo hi : Option Int) : List α := (xs.drop (HT.sIx xs.length 0 lo)).take (HT.sIx xs.length xs.length hi - HT.sIx xs.length 0 lo)
def slD (x : D) (lo hi : Option Int) (G : Gh) : Option (D × Gh) := match x with
  | .ref i => (match G.ob i with
    | .lst xs => some (.ref G.n, G.push (.lst (cutD xs lo hi)))
    | _ => none)
  | .rol xs => some (.ref G.n, G.push (.lst (cutD xs lo hi)))
  | .str z => if z.length ≤ sizeLine then some (.str (cutS z lo hi), G) else none
  | .tup xs => if ¬ (HT.sIx xs.length 0 lo = 0 ∧ HT.sIx xs.length xs.length hi = xs.length) then some (.tup (cutD xs lo hi), G) else none
  | _ => none
def eSl (ma : Ev → M D) (p q : Ev → M (Option Int)) : Ev → M D := fun env G => (ma env G).bind fun x G1 => (p env G1).bind fun lo G2 => (q env G2).bind fun hi G3 => lift (slD x lo hi G3)
theorem RVs.cut {K : PySem.W.Frag} {ρ : List Addr} {H : Hp} {xs : List D} {vs : List V} {lo hi : Option Int} (r : RVs K g ρ H xs vs) : RVs K g ρ H (cutD xs lo hi) (cutV vs lo hi) := by
  unfold cutD cutV
  rw [r.len]
  exact (r.drop _).take _
theorem fe_sl {lo hi : Option Expr} {p q : Ev → M (Option Int)} {p2 : Pos} (ha : FE X g W a ma) (hl : FO X g W lo p) (hh : FO X g W hi q) : FE X g W (.Subscript a (.Slice lo hi none p2) pos) (eSl ma p q) := by
  refine PE.imp (pe_slice (SlR.or (SlR.or sl_list sl_str) sl_tup) ha hl hh) ?_
  rintro σ H Q ⟨ρ, env, G, R, E, h⟩
  refine tE_run R E h.bind fun x G1 ρ1 H1 x1 R1 h1 v1 r1 => tP_run R1 (E.ext x1) h1.bind fun lo G2 ρ2 H2 x2 R2 h2 => tP_run R2 ((E.ext x1).ext x2) h2.bind fun hi G3 ρ3 H3 x3 R3 h3 => ?_
  obtain ⟨d, G', e, k⟩ := h3.lift
  have r3 := (r1.ext x2).ext x3
  unfold slD at e
  split at e
  · rw [RV] at r3
    obtain ⟨p, q, z⟩ := r3
    subst z
    have o := R3.obj _ _ q
    split at e
    · rename_i xs z
      rw [z] at o
      obtain ⟨vs, hp, r⟩ := o
      cases e
      refine .inl (.inl ⟨p, vs, rfl, .of hp, fun l hl => ?_⟩)
      obtain ⟨x4, R4, r4⟩ := lst_new R3 (r.cut (lo := lo) (hi := hi)) hl
      exact k _ _ x4 R4 _ r4
    · cases e
  · rw [RV] at r3
    obtain ⟨p, vs, q, sq, r⟩ := r3
    subst q
    cases e
    refine .inl (.inl ⟨p, vs, rfl, sq.seq, fun l hl => ?_⟩)
    obtain ⟨x4, R4, r4⟩ := lst_new R3 (r.cut (lo := lo) (hi := hi)) hl
    exact k _ _ x4 R4 _ r4
  · cases (show v1 = .str _ from r3)
    split at e
    · rename_i hz
      cases e
      exact .inl (.inr ⟨_, rfl, hz, k _ _ (.refl _ _) R3 _ rfl⟩)
    · cases e
  · rw [RV] at r3
    obtain ⟨p, vs, q, sq, r⟩ := r3
    subst q
    split at e
    · rename_i hz
      cases e
      refine .inr ⟨p, vs, rfl, sq, by rw [r.len]; exact hz, fun l hl => ?_⟩
      obtain ⟨x4, R4, r4⟩ := tup_new R3 (r.cut (lo := lo) (hi := hi)) hl
      exact k _ _ x4 R4 _ r4
    · cases e
  · cases e
end

/-! ### defs -/
/-- what a def promises: it does what its mirror does -/
def spF (K : PySem.W.Frag) (g : Tg) (m : List D → M D) : Sp := fun vs H Q E => ∃ ρ G ds, Rep K g ρ G H ∧ RVs K g ρ H ds vs ∧ Po K g (fun c d _ H => E c d H) [] ρ H (m ds G) fun d _ ρ' H' => ∀ v, RV K g ρ' H' d v → Q v H'
theorem Po.wish {K : PySem.W.Frag} {g : Tg} {W : WX} {σ : St} {ρ : List Addr} {H : Hp} {α : Type} {r : Rs α} {P : α → Gh → List Addr → Hp → Prop} (h : Po K g W σ ρ H r P) : Po K g (fun c d _ H => W c d σ H) [] ρ H r P := by
  cases r with
  | ok a G => exact h
  | er c G => exact h
  | no => exact h
def eCall (m : List D → M D) (n : Ev → M (List D)) : Ev → M D := fun env G => (n env G).bind m
/-- x.f(..), x an instance of the class c; bad: a field that has the method's name -/
def eMeth (c : Nat) (bad : Option Nat) (m : List D → M D) (ma : Ev → M D) (n : Ev → M (List D)) : Ev → M D := fun env G => (ma env G).bind fun x G1 => match x with
  | .ref i => (match G1.ob i with
    | .ins c' fs => if c' = c ∧ (∀ f, bad = some f → valD fs f = none) then (n env G1).bind fun ds G2 => m (.ref i :: ds) G2 else .no
    | _ => .no)
  | _ => .no
instance (bad : Option Nat) (fs : List (Nat × D)) : Decidable (∀ f, bad = some f → valD fs f = none) := match bad with
  | none => .isTrue fun _ e => nomatch e
  | some f => if h : (valD fs f).isNone = true then .isTrue fun _ e => by cases e; exact Option.isNone_iff_eq_none.mp h else .isFalse fun q => h (by rw [q f rfl]; rfl)
def eMake (c : Nat) (m : List D → M D) (n : Ev → M (List D)) : Ev → M D := fun env G => (n env G).bind fun ds G1 => (m (.ref G1.n :: ds) (G1.push (.ins c []))).bind fun d G2 => match d with
  | .non => .ok (.ref G1.n) G2
  | _ => .no
section
variable {X : Cx} {g : Tg} {W : WX} {pos apos p : Pos} {o e : Expr} {es : List Expr} {mo : Ev → M D} {ms : Ev → M (List D)} {k : Nat} {f C : Addr} {fd : FuncData} {ps : List Str} {m : List D → M D} {x y : Str} {sp : Sp} {E : St → XK} {ta : TE} {t : TA}
/-- f may be called from here, by its promise -/
structure Cal (X : Cx) (f : Addr) (sp : Sp) : Prop where
  kp : PySem.W.keepIn X.K (.ref f) = true
  run : ∀ (pins : List (Addr × Obj)) (σ : St) (H : Hp) (s : Shared) (Q : VK) (us : List Value) (vs : List V) (E : XK), PassesAt (L2N.CX X.prog X.w) X σ E → Inv X pins σ H s → Vals vs us → sp vs H Q E → wpAny (model X.prog X.w) X.A (call (.ref f) us) (EP X pins σ Q) X.xe s
/-- f keeps its promise where k rooms are left -/
structure FnR (P : Program) (w : World) (K : PySem.W.Frag) (mg : Str → Option Value) (base : Heap) (k : Nat) (f : Addr) (sp : Sp) : Prop where
  ex : ∃ fd ps, FnOk P w K mg base (L2N.CX P w) k f fd ps sp ∧ Binds K fd ps []
  kp : PySem.W.keepIn K (.ref f) = true
/-- .. within an except suite -/
structure FnRH (P : Program) (w : World) (K : PySem.W.Frag) (mg : Str → Option Value) (base : Heap) (k : Nat) (f : Addr) (sp : Sp) : Prop where
  ex : ∃ fd ps, L2H.FnH P w K mg base (L2N.CX P w) k f fd ps sp ∧ Binds K fd ps []
  kp : PySem.W.keepIn K (.ref f) = true
theorem FnR.cal {sp : Sp} {k : Nat} {f : Addr} (F : FnR X.prog X.w X.K X.mg X.base k f sp) (hr : Room k X.A) : Cal X f sp := by
  obtain ⟨fd, ps, h, b⟩ := F.ex
  exact ⟨F.kp, fun pins σ H s Q us vs E hx I r q => run_fnS (E := fun _ => E) h hr b hx I r q⟩
theorem FnRH.cal {sp : Sp} {k : Nat} {f : Addr} (F : FnRH X.prog X.w X.K X.mg X.base k f sp) (hr : L2H.RoomH k X.A) (hc : L2H.HotC X) : Cal X f sp := by
  obtain ⟨fd, ps, h, b⟩ := F.ex
  exact ⟨F.kp, fun pins σ H s Q us vs E hx I r q => L2H.run_fnH (E := fun _ => E) h hr hc b hx I r q⟩
/-- the wish may hang on the slots: o.y(e, ..), o.y(), C(e, ..), C(), f() -/
theorem pe_mthA {pl : Sem Bool} (c : Cls X.K C) (hm : Meth X.K C y f) (F : Cal X f sp) (hx : ∀ σ, PassesAt (L2N.CX X.prog X.w) X σ (E σ)) (he : PE X o ta) (ha : PA X (e :: es) t)
    (q1 : starEach (e :: es) X.env = (false, eval e X.env) :: starEach es X.env) (q2 : (backTo pos (starEach es X.env)).any (·.1) = false)
    (q3 : eval (.Call (.Attribute o y apos) (e :: es) [] pos) X.env = (do let ov ← eval o X.env; standAt apos.atName; let (f, first) ← holding [ov] (getMethod ov y pl); callWith pos f first (backTo pos (starEach (e :: es) X.env)) (backToKw pos (keywordEach [] X.env)))) :
    PE X (.Call (.Attribute o y apos) (e :: es) [] pos) (fun σ H Q => ta σ H fun x H1 => ∃ a dx fs, x = .ref a ∧ H1 a = some (.ins C dx fs) ∧ fs.lookup y = none ∧ t σ H1 fun vs H2 => sp (x :: vs) H2 Q (E σ)) := by
  refine ⟨fun pins s σ H Q I h => PySem.W.methodCall_KW (pl := pl) (thn (he.run pins s σ H _ I h) fun u s1 hh => ?_) q3⟩
  obtain ⟨z, H1, I1, rz, a, dx, fs, ez, ea, l, hq⟩ := hh
  subst ez
  obtain rfl : u = Value.ref a := rz
  refine getmeth_ok I1 ea c hm l (PySem.W.callWith_K (first := [.ref a]) (h₀ := X.base) I.ok.mod.kin hm.kp (thn (ha.run pos pins s1 σ H1 _ I1 hq) fun us s2 hh2 => ?_) q1 q2)
  obtain ⟨vs, H2, I2, r2, hq2⟩ := hh2
  exact ⟨I2.kIn, F.run _ _ _ _ _ (.ref a :: us) (.ref a :: vs) (E σ) (hx σ) I2 (.cons rfl r2) hq2⟩
theorem pe_mthA0 {pl : Sem Bool} (c : Cls X.K C) (hm : Meth X.K C y f) (F : Cal X f sp) (hx : ∀ σ, PassesAt (L2N.CX X.prog X.w) X σ (E σ)) (he : PE X o ta)
    (q3 : eval (.Call (.Attribute o y apos) [] [] pos) X.env = (do let ov ← eval o X.env; standAt apos.atName; let (f, first) ← holding [ov] (getMethod ov y pl); callWith pos f first (backTo pos (starEach [] X.env)) (backToKw pos (keywordEach [] X.env)))) :
    PE X (.Call (.Attribute o y apos) [] [] pos) (fun σ H Q => ta σ H fun x H1 => ∃ a dx fs, x = .ref a ∧ H1 a = some (.ins C dx fs) ∧ fs.lookup y = none ∧ sp [x] H1 Q (E σ)) := by
  refine ⟨fun pins s σ H Q I h => PySem.W.methodCall_KW (pl := pl) (thn (he.run pins s σ H _ I h) fun u s1 hh => ?_) q3⟩
  obtain ⟨z, H1, I1, rz, a, dx, fs, ez, ea, l, hq⟩ := hh
  subst ez
  obtain rfl : u = Value.ref a := rz
  exact getmeth_ok I1 ea c hm l (PySem.W.callWith_K0 (first := [.ref a]) I1.kIn hm.kp (F.run _ _ _ _ _ [.ref a] [.ref a] (E σ) (hx σ) I1 (.cons rfl .nil) hq))
theorem pe_cal0 (F : Cal X f sp) (hx : ∀ σ, PassesAt (L2N.CX X.prog X.w) X σ (E σ)) (hg : Gl X x) (hm : X.mg x = some (.ref f)) 
    (hd : (x == ("__debug__" : Str)) = false := by decide) : PE X (.Call (.Name x p) [] [] pos) (fun σ H Q => sp [] H Q (E σ)) :=
  ⟨fun pins s σ H Q I h => wpAny_Call_Name_kw (ld_glob I hg hm (PySem.W.callWith_K0 I.kIn F.kp (F.run pins σ H s Q [] [] (E σ) (hx σ) I .nil h)) hd)⟩
theorem pe_calA (F : Cal X f sp) (hx : ∀ σ, PassesAt (L2N.CX X.prog X.w) X σ (E σ)) (hg : Gl X x) (hm : X.mg x = some (.ref f)) (ha : PA X (e :: es) t)
    (q1 : starEach (e :: es) X.env = (false, eval e X.env) :: starEach es X.env) (q2 : (backTo pos (starEach es X.env)).any (·.1) = false) (hd : (x == ("__debug__" : Str)) = false := by decide) :
    PE X (.Call (.Name x p) (e :: es) [] pos) (fun σ H Q => t σ H fun vs H1 => sp vs H1 Q (E σ)) := by
  refine ⟨fun pins s σ H Q I h => wpAny_Call_Name_kw (ld_glob I hg hm (PySem.W.callWith_K (h₀ := X.base) I.ok.mod.kin F.kp (thn (ha.run pos pins s σ H _ I h) fun us s1 hh => ?_) q1 q2) hd)⟩
  obtain ⟨vs, H1, I1, r, q⟩ := hh
  exact ⟨I1.kIn, F.run _ _ _ _ _ us vs (E σ) (hx σ) I1 r q⟩
theorem run_mkS {pins : List (Addr × Obj)} {σ : St} {H : Hp} {s : Shared} {Q : VK} {us : List Value} {vs : List V} (M : Mk X.K C f) (F : FnOk X.prog X.w X.K X.mg X.base (L2N.CX X.prog X.w) k f fd ps sp) (hr : Room (k + 1) X.A) (hb : Binds X.K fd ps [])
    (hx : ∀ σ, PassesAt (L2N.CX X.prog X.w) X σ (E σ)) (I : Inv X pins σ H s) (r : Vals vs us) (h : ∀ x dx, H x = none → H dx = none → dx ≠ x → sp (.ref x :: vs) (upd (upd H dx (.own x)) x (.ins C dx [])) (fun v H2 => v = .non ∧ Q (.ref x) H2) (E σ)) :
    wpAny (model X.prog X.w) X.A (call (.ref C) us) (EP X pins σ Q) X.xe s := by
  have hq := h (s.heap.objs.size + 1) s.heap.objs.size (I.hok.fresh (Nat.le_succ _)) (I.hok.fresh (Nat.le_refl _)) (Nat.ne_of_lt (Nat.lt_succ_self _))
  have I2 := Inv.made (C := C) I
  have r2 : Vals (V.ref (s.heap.objs.size + 1) :: vs) (Value.ref (s.heap.objs.size + 1) :: us) := .cons rfl r
  have hl : (Value.ref (s.heap.objs.size + 1) :: us).length = ps.length := by rw [← r2.length]; exact F.len _ _ _ _ hq
  have b := hb _ (Value.ref (s.heap.objs.size + 1) :: us) I2.kIn (by rw [List.append_nil]; exact hl)
  rw [List.append_nil] at b
  refine wpAny_call (make_map (f := f) I.kIn M.makes M.init (beq_iff_eq.mp M.fn) (codeAny_mono (F.run _ X.stack _ _ ⟨_, []⟩ _ _ _ (E σ) (hr.make C us []) (I2.env0.make C us []) b r2 hq) fun r s' hq' => ?_))
  cases r with
  | error e => exact hx σ pins _ _ e s' I2 hq'
  | ok fl =>
    cases fl with
    | ret u =>
      obtain ⟨v, H', I3, rv, ev, q3⟩ := I2.after hq'
      cases ev
      exact ⟨rv, V.ref (s.heap.objs.size + 1), H', I3, rfl, q3⟩
    | next => exact hq'.elim
    | brk => exact hq'.elim
    | cont => exact hq'.elim
theorem pe_mkA (M : Mk X.K C f) (F : FnOk X.prog X.w X.K X.mg X.base (L2N.CX X.prog X.w) k f fd ps sp) (hr : Room (k + 1) X.A) (hb : Binds X.K fd ps []) (hx : ∀ σ, PassesAt (L2N.CX X.prog X.w) X σ (E σ)) (hg : Gl X x) (hm : X.mg x = some (.ref C)) (ha : PA X (e :: es) t)
    (q1 : starEach (e :: es) X.env = (false, eval e X.env) :: starEach es X.env) (q2 : (backTo pos (starEach es X.env)).any (·.1) = false) (hd : (x == ("__debug__" : Str)) = false := by decide) :
    PE X (.Call (.Name x p) (e :: es) [] pos) (fun σ H Q => t σ H fun vs H1 => ∀ x dx, H1 x = none → H1 dx = none → dx ≠ x → sp (.ref x :: vs) (upd (upd H1 dx (.own x)) x (.ins C dx [])) (fun v H2 => v = .non ∧ Q (.ref x) H2) (E σ)) := by
  refine ⟨fun pins s σ H Q I h => wpAny_Call_Name_kw (ld_glob I hg hm (PySem.W.callWith_K (h₀ := X.base) I.ok.mod.kin M.kp (thn (ha.run pos pins s σ H _ I h) fun us s1 hh => ?_) q1 q2) hd)⟩
  obtain ⟨vs, H1, I1, r, q⟩ := hh
  exact ⟨I1.kIn, run_mkS M F hr hb hx I1 r q⟩
theorem pe_mkA0 (M : Mk X.K C f) (F : FnOk X.prog X.w X.K X.mg X.base (L2N.CX X.prog X.w) k f fd ps sp) (hr : Room (k + 1) X.A) (hb : Binds X.K fd ps []) (hx : ∀ σ, PassesAt (L2N.CX X.prog X.w) X σ (E σ)) (hg : Gl X x) (hm : X.mg x = some (.ref C))
    (hd : (x == ("__debug__" : Str)) = false := by decide) :
    PE X (.Call (.Name x p) [] [] pos) (fun σ H Q => ∀ x dx, H x = none → H dx = none → dx ≠ x → sp [.ref x] (upd (upd H dx (.own x)) x (.ins C dx [])) (fun v H2 => v = .non ∧ Q (.ref x) H2) (E σ)) :=
  ⟨fun pins s σ H Q I h => wpAny_Call_Name_kw (ld_glob I hg hm (PySem.W.callWith_K0 I.kIn M.kp (run_mkS (us := []) M F hr hb hx I .nil h)) hd)⟩

theorem fe_call (F : Cal X f (spF X.K g m)) (hg : Gl X x) (hm : X.mg x = some (.ref f)) (tk : L2N.Takes X W) (ha : FA X g W (e :: es) ms)
    (hd : (x == ("__debug__" : Str)) = false := by decide) (q1 : starEach (e :: es) X.env = (false, eval e X.env) :: starEach es X.env := by rfl) (q2 : (backTo pos (starEach es X.env)).any (·.1) = false := by rfl) :
    FE X g W (.Call (.Name x p) (e :: es) [] pos) (eCall m ms) := by
  refine PE.imp (pe_calA F (L2N.passAt tk) hg hm ha q1 q2 hd) ?_
  rintro σ H Q ⟨ρ, env, G, R, E, h⟩
  exact tA_run R E h.bind fun ds G1 ρ1 H1 x1 R1 h1 vs r1 => ⟨ρ1, G1, ds, R1, r1, h1.wish⟩
theorem fe_call0 (F : Cal X f (spF X.K g m)) (hg : Gl X x) (hm : X.mg x = some (.ref f)) (tk : L2N.Takes X W)
    (hd : (x == ("__debug__" : Str)) = false := by decide) : FE X g W (.Call (.Name x p) [] [] pos) (eCall m aNil) := by
  refine PE.imp (pe_cal0 F (L2N.passAt tk) hg hm hd) ?_
  rintro σ H Q ⟨ρ, env, G, R, E, h⟩
  exact ⟨ρ, G, [], R, .nil, h.wish⟩
theorem bad_of {K : PySem.W.Frag} {ρ : List Addr} {H : Hp} {bad : Option Nat} (hi : FnInj g) (hbad : ∀ f, g.fn f = y → bad = some f) : ∀ {fs : List (Nat × D)} {ws : List (Str × V)}, RM K g ρ H g.fn fs ws → (∀ f, bad = some f → valD fs f = none) → ws.lookup y = none
  | [], _, h, _ => by rw [RM] at h; subst h; rfl
  | (j, d) :: r, _, h, n => by
    rw [RM] at h
    obtain ⟨v, q, z, h1, h2⟩ := h
    subst z
    have nj : ¬ y = g.fn j := fun z => by
      have := n j (hbad j z.symm)
      rw [valD, if_pos rfl] at this
      cases this
    rw [List.lookup_cons, beq_eq_false_iff_ne.mpr nj]
    refine bad_of hi hbad h2 fun f hf => ?_
    have := n f hf
    rw [valD] at this
    split at this
    · cases this
    · exact this
theorem fe_meth {pl : Sem Bool} {c : Nat} {bad : Option Nat} (F : Cal X f (spF X.K g m)) (hc : Cls X.K (g.ca c)) (hm : Meth X.K (g.ca c) y f) (hi : FnInj g) (hbad : ∀ f, g.fn f = y → bad = some f) (tk : L2N.Takes X W)
    (ho : FE X g W o mo) (ha : FA X g W (e :: es) ms) (q1 : starEach (e :: es) X.env = (false, eval e X.env) :: starEach es X.env := by rfl) (q2 : (backTo pos (starEach es X.env)).any (·.1) = false := by rfl)
    (q3 : eval (.Call (.Attribute o y apos) (e :: es) [] pos) X.env = (do let ov ← eval o X.env; standAt apos.atName; let (f, first) ← holding [ov] (getMethod ov y pl); callWith pos f first (backTo pos (starEach (e :: es) X.env)) (backToKw pos (keywordEach [] X.env))) := by rfl) :
    FE X g W (.Call (.Attribute o y apos) (e :: es) [] pos) (eMeth c bad m mo ms) := by
  refine PE.imp (pe_mthA hc hm F (L2N.passAt tk) ho ha q1 q2 q3) ?_
  rintro σ H Q ⟨ρ, env, G, R, E, h⟩
  refine tE_run R E h.bind fun d G1 ρ1 H1 x1 R1 h1 v1 r1 => ?_
  split at h1
  · rename_i i
    split at h1
    · rename_i c' fs z
      split at h1
      · rename_i hcc
        obtain ⟨rfl, hbd⟩ := hcc
        have r1' := r1
        rw [RV] at r1
        obtain ⟨a, e1, e2⟩ := r1
        subst e2
        have o1 := R1.obj _ _ e1
        rw [z] at o1
        obtain ⟨dx, ws, hp, rm⟩ := o1
        refine ⟨a, dx, ws, rfl, hp, bad_of hi hbad rm hbd, tA_run R1 (E.ext x1) h1.bind fun ds G2 ρ2 H2 x2 R2 h2 vs r2 => ?_⟩
        exact ⟨ρ2, G2, _, R2, .cons (r1'.ext x2) r2, h2.wish⟩
      · exact h1.elim
    · exact h1.elim
  · exact h1.elim
theorem fe_meth0 {pl : Sem Bool} {c : Nat} {bad : Option Nat} (F : Cal X f (spF X.K g m)) (hc : Cls X.K (g.ca c)) (hm : Meth X.K (g.ca c) y f) (hi : FnInj g) (hbad : ∀ f, g.fn f = y → bad = some f) (tk : L2N.Takes X W)
    (ho : FE X g W o mo)
    (q3 : eval (.Call (.Attribute o y apos) [] [] pos) X.env = (do let ov ← eval o X.env; standAt apos.atName; let (f, first) ← holding [ov] (getMethod ov y pl); callWith pos f first (backTo pos (starEach [] X.env)) (backToKw pos (keywordEach [] X.env))) := by rfl) :
    FE X g W (.Call (.Attribute o y apos) [] [] pos) (eMeth c bad m mo aNil) := by
  refine PE.imp (pe_mthA0 hc hm F (L2N.passAt tk) ho q3) ?_
  rintro σ H Q ⟨ρ, env, G, R, E, h⟩
  refine tE_run R E h.bind fun d G1 ρ1 H1 x1 R1 h1 v1 r1 => ?_
  split at h1
  · rename_i i
    split at h1
    · rename_i c' fs z
      split at h1
      · rename_i hcc
        obtain ⟨rfl, hbd⟩ := hcc
        have r1' := r1
        rw [RV] at r1
        obtain ⟨a, e1, e2⟩ := r1
        subst e2
        have o1 := R1.obj _ _ e1
        rw [z] at o1
        obtain ⟨dx, ws, hp, rm⟩ := o1
        refine ⟨a, dx, ws, rfl, hp, bad_of hi hbad rm hbd, ρ1, G1, _, R1, .cons r1' .nil, ?_⟩
        exact Po.wish h1
      · exact h1.elim
    · exact h1.elim
  · exact h1.elim
/-- an instance is made -/
theorem make_run {c : Nat} {ρ : List Addr} {G : Gh} {H : Hp} {σ : St} {ds : List D} {vs : List V} {Q : VK} (R : Rep X.K g ρ G H) (r : RVs X.K g ρ H ds vs)
    (h : Po X.K g W σ ρ H ((m (.ref G.n :: ds) (G.push (.ins c []))).bind fun d G2 => match d with | .non => .ok (D.ref G.n) G2 | _ => .no) fun d _ ρ' H' => ∀ v, RV X.K g ρ' H' d v → Q v H') :
    ∀ x dx, H x = none → H dx = none → dx ≠ x → spF X.K g m (.ref x :: vs) (upd (upd H dx (.own x)) x (.ins (g.ca c) dx [])) (fun v H2 => v = .non ∧ Q (.ref x) H2) (WE W σ) := by
  intro x dx hx hdx ne
  have x1 : Ext ρ H ρ (upd H dx (.own x)) := ⟨fun _ _ z => z, .new hdx⟩
  have hx1 : upd H dx (.own x) x = none := by rw [upd_ne (Ne.symm ne)]; exact hx
  obtain ⟨R2, x2, q2⟩ := (R.grow (o := .own x) hdx).new (o := .ins (g.ca c) dx []) (ob := .ins c []) hx1 ⟨dx, [], upd_same, by rw [RM]⟩
  have rx : RV X.K g (ρ ++ [x]) (upd (upd H dx (.own x)) x (.ins (g.ca c) dx [])) (.ref G.n) (.ref x) := by rw [RV]; exact ⟨x, q2, rfl⟩
  refine ⟨_, _, _, R2, .cons rx ((r.ext x1).ext x2), ?_⟩
  refine ((h.start (x1.trans x2)).bind.wish).imp fun d G3 ρ3 H3 x3 R3 h3 v3 r3 => ?_
  cases d with
  | non => exact ⟨r3, h3.now R3 _ (rx.ext x3)⟩
  | _ => exact h3.elim
theorem fe_make {c : Nat} (M : Mk X.K (g.ca c) f) (F : FnR X.prog X.w X.K X.mg X.base k f (spF X.K g m)) (hr : Room (k + 1) X.A) (tk : L2N.Takes X W) (hg : Gl X x) (hm : X.mg x = some (.ref (g.ca c))) (ha : FA X g W (e :: es) ms)
    (hd : (x == ("__debug__" : Str)) = false := by decide) (q1 : starEach (e :: es) X.env = (false, eval e X.env) :: starEach es X.env := by rfl) (q2 : (backTo pos (starEach es X.env)).any (·.1) = false := by rfl) :
    FE X g W (.Call (.Name x p) (e :: es) [] pos) (eMake c m ms) := by
  obtain ⟨fd, ps, h, hb⟩ := F.ex
  refine PE.imp (pe_mkA M h hr hb (L2N.passAt tk) hg hm ha q1 q2 hd) ?_
  rintro σ H Q ⟨ρ, env, G, R, E, h⟩
  exact tA_run R E h.bind fun ds G1 ρ1 H1 x1 R1 h1 vs r1 => make_run R1 r1 h1
theorem fe_make0 {c : Nat} (M : Mk X.K (g.ca c) f) (F : FnR X.prog X.w X.K X.mg X.base k f (spF X.K g m)) (hr : Room (k + 1) X.A) (tk : L2N.Takes X W) (hg : Gl X x) (hm : X.mg x = some (.ref (g.ca c)))
    (hd : (x == ("__debug__" : Str)) = false := by decide) : FE X g W (.Call (.Name x p) [] [] pos) (eMake c m aNil) := by
  obtain ⟨fd, ps, h, hb⟩ := F.ex
  refine PE.imp (pe_mkA0 M h hr hb (L2N.passAt tk) hg hm hd) ?_
  rintro σ H Q ⟨ρ, env, G, R, E, h⟩
  exact make_run R .nil h
end
end Mi
/-! F, part 5: statements, loops. -/
namespace Mi
open PySem PySem.Spec PyProof.Rows L2

inductive Ro where
  | nx (env : Ev) (G : Gh) | rt (d : D) (G : Gh) | bk (env : Ev) (G : Gh) | ct (env : Ev) (G : Gh) | er (c : Nat) (env : Ev) (G : Gh) | no
def Ps (K : PySem.W.Frag) (g : Tg) (W : WX) (ρ : List Addr) (H : Hp) (D : Ends) : Ro → Prop
  | .nx env G => ∀ ρ' H' σ', Ext ρ H ρ' H' → Rep K g ρ' G H' → RE K g ρ' H' env σ' → D.nx σ' H'
  | .rt d G => ∀ ρ' H' v, Ext ρ H ρ' H' → Rep K g ρ' G H' → RV K g ρ' H' d v → D.rt v H'
  | .bk env G => ∀ ρ' H' σ', Ext ρ H ρ' H' → Rep K g ρ' G H' → RE K g ρ' H' env σ' → D.bk σ' H'
  | .ct env G => ∀ ρ' H' σ', Ext ρ H ρ' H' → Rep K g ρ' G H' → RE K g ρ' H' env σ' → D.ct σ' H'
  | .er c env G => ∀ ρ' H' σ', Ext ρ H ρ' H' → Rep K g ρ' G H' → RE K g ρ' H' env σ' → W (.ref (g.ca c)) none σ' H'
  | .no => False
abbrev Sm := Ev → Gh → Ro
def Ro.seq : Ro → Sm → Ro
  | .nx env G, f => f env G
  | .rt d G, _ => .rt d G
  | .bk env G, _ => .bk env G
  | .ct env G, _ => .ct env G
  | .er c env G, _ => .er c env G
  | .no, _ => .no
/-- an expression's end in a statement -/
def exS {α : Type} (r : Rs α) (env : Ev) (f : α → Gh → Ro) : Ro := match r with
  | .ok a G => f a G
  | .er c G => .er c env G
  | .no => .no
section
variable {K : PySem.W.Frag} {g : Tg} {W : WX} {σ : St} {ρ ρ' : List Addr} {H H' : Hp} {D' D'' : Ends} {α : Type}
theorem Ps.start {r : Ro} (h : Ps K g W ρ H D' r) (x : Ext ρ H ρ' H') : Ps K g W ρ' H' D' r := by
  cases r with
  | no => exact h
  | _ => exact fun ρ2 H2 z x2 => h ρ2 H2 z (x.trans x2)
theorem Ps.ex {r : Rs α} {env : Ev} {f : α → Gh → Ro} (h : Ps K g W ρ H D' (exS r env f)) (E : RE K g ρ H env σ) : Po K g W σ ρ H r fun a G ρ' H' => Ps K g W ρ' H' D' (f a G) := by
  cases r with
  | ok a G => exact fun ρ2 H2 x2 R => Ps.start h x2
  | er c G => exact fun ρ2 H2 x2 R => h ρ2 H2 σ x2 R (E.ext x2)
  | no => exact h
theorem Ps.now {env : Ev} {G : Gh} (h : Ps K g W ρ H D' (.nx env G)) (R : Rep K g ρ G H) (E : RE K g ρ H env σ) : D'.nx σ H := h ρ H σ (.refl _ _) R E
end
def tS (K : PySem.W.Frag) (g : Tg) (W : WX) (m : Sm) : TS := fun D σ H => ∃ ρ env G, Rep K g ρ G H ∧ RE K g ρ H env σ ∧ Ps K g W ρ H D (m env G)
abbrev FS (X : Cx) (g : Tg) (W : WX) (st : Stmt) (m : Sm) : Prop := PS X st (tS X.K g W m)
abbrev FSs (X : Cx) (g : Tg) (W : WX) (st : List Stmt) (m : Sm) : Prop := PSs X st (tS X.K g W m)
def sNx : Sm := fun env G => .nx env G
@[irreducible] def sSeq (m n : Sm) : Sm := fun env G => (m env G).seq n
def sBrk : Sm := fun env G => .bk env G
def sCnt : Sm := fun env G => .ct env G
def sNever : Sm := fun _ _ => .no
def sDrop (m : Ev → M D) : Sm := fun env G => exS (m env G) env fun _ G1 => .nx env G1
def sRet (m : Ev → M D) : Sm := fun env G => exS (m env G) env fun d G1 => .rt d G1
def sRetN : Sm := fun _ G => .rt .non G
def sIf (n : Ev → M Bool) (m m' : Sm) : Sm := fun env G => exS (n env G) env fun b G1 => if b = true then m env G1 else m' env G1
section
variable {X : Cx} {g : Tg} {W : WX} {pos tpos : Pos} {a b e o : Expr} {ma mb mo : Ev → M D} {st : Stmt} {rest sa sb : List Stmt} {m n m' : Sm} {na : Nat → Nat → Bool}
theorem fss_nil : FSs X g W [] sNx := by
  refine PSs.imp pss_nil ?_
  rintro D σ H ⟨ρ, env, G, R, E, h⟩
  exact h.now R E
theorem fss_cons (h1 : FS X g W st m) (h2 : FSs X g W rest n) : FSs X g W (st :: rest) (sSeq m n) := by
  refine PSs.imp (pss_cons h1 h2) ?_
  rintro D σ H ⟨ρ, env, G, R, E, h⟩
  refine ⟨ρ, env, G, R, E, ?_⟩
  unfold sSeq at h
  cases z : m env G with
  | nx env' G' =>
    rw [z] at h
    exact fun ρ' H' σ' x R' E' => ⟨ρ', env', G', R', E', Ps.start h x⟩
  | rt d G' => rw [z] at h; exact h
  | bk env' G' => rw [z] at h; exact h
  | ct env' G' => rw [z] at h; exact h
  | er c env' G' => rw [z] at h; exact h
  | no => rw [z] at h; exact h
theorem fss_one (h1 : FS X g W st m) : FSs X g W [st] m := pss_one h1
theorem fs_pass : FS X g W (.Pass pos) sNx := by
  refine PS.imp ps_pass ?_
  rintro D σ H ⟨ρ, env, G, R, E, h⟩
  exact h.now R E
theorem fs_brk : FS X g W (.Break pos) sBrk := by
  refine PS.imp ps_break ?_
  rintro D σ H ⟨ρ, env, G, R, E, h⟩
  exact h ρ H σ (.refl _ _) R E
theorem fs_cnt : FS X g W (.Continue pos) sCnt := by
  refine PS.imp ps_continue ?_
  rintro D σ H ⟨ρ, env, G, R, E, h⟩
  exact h ρ H σ (.refl _ _) R E
theorem fs_never : FS X g W st sNever := by
  refine PS.imp ps_never ?_
  rintro D σ H ⟨ρ, env, G, R, E, h⟩
  exact h
theorem fs_doc {x j pos'} : FS X g W (.Expr (.Constant (.str x) j pos) pos') sNx := by
  refine PS.imp ps_doc ?_
  rintro D σ H ⟨ρ, env, G, R, E, h⟩
  exact h.now R E
theorem fs_expr (ha : FE X g W a ma) (hs : swapsWith a none pos.line X.env = pure false := by rfl) : FS X g W (.Expr a pos) (sDrop ma) := by
  refine PS.imp (ps_expr ha hs) ?_
  rintro D σ H ⟨ρ, env, G, R, E, h⟩
  exact tE_run R E (h.ex E) fun d G1 ρ1 H1 x1 R1 h1 v1 r1 => h1.now R1 (E.ext x1)
theorem fs_ret (ha : FE X g W a ma) : FS X g W (.Return (some a) pos) (sRet ma) := by
  refine PS.imp (ps_ret ha) ?_
  rintro D σ H ⟨ρ, env, G, R, E, h⟩
  exact tE_run R E (h.ex E) fun d G1 ρ1 H1 x1 R1 h1 v1 r1 => h1 ρ1 H1 v1 (.refl _ _) R1 r1
theorem fs_retN : FS X g W (.Return none pos) sRetN := by
  refine PS.imp ps_retN ?_
  rintro D σ H ⟨ρ, env, G, R, E, h⟩
  exact h ρ H _ (.refl _ _) R rfl
theorem fs_if {c : Expr} {nc : Ev → M Bool} (hc : FT X g W c nc) (ha : FSs X g W sa m) (hb : FSs X g W sb n) : FS X g W (.If c sa sb pos) (sIf nc m n) := by
  refine PS.imp (ps_if hc ha hb) ?_
  rintro D σ H ⟨ρ, env, G, R, E, h⟩
  refine tT_run R E (h.ex E) fun b G1 ρ1 H1 x1 R1 h1 => ?_
  cases b with
  | true => rw [if_pos rfl] at h1 ⊢; exact ⟨ρ1, env, G1, R1, E.ext x1, h1⟩
  | false => rw [if_neg Bool.false_ne_true] at h1 ⊢; exact ⟨ρ1, env, G1, R1, E.ext x1, h1⟩

/-! ### targets -/
abbrev Tm := D → Gh → Ev → Option Ev
/-- slots that differ at vs at most -/
structure But (vs : List Nat) (σ σ' : St) : Prop where
  len : σ'.length = σ.length
  out : ∀ j, j ∉ vs → σ'[j]? = σ[j]?
theorem But.set (σ : St) (i : Nat) (y : Option V) : But [i] σ (σ.set i y) := ⟨List.length_set, fun j h => List.getElem?_set_ne fun e => h (by rw [e]; exact List.mem_singleton.mpr rfl)⟩
theorem But.refl (σ : St) (vs : List Nat) : But vs σ σ := ⟨rfl, fun _ _ => rfl⟩
theorem But.trans {σ σ1 σ2 : St} {vs ws : List Nat} (a : But vs σ σ1) (b : But ws σ1 σ2) : But (vs ++ ws) σ σ2 :=
  ⟨b.len.trans a.len, fun j h => (b.out j fun z => h (List.mem_append_right _ z)).trans (a.out j fun z => h (List.mem_append_left _ z))⟩
def tG (K : PySem.W.Frag) (g : Tg) (t : Tm) (ws : List Nat) : TG := fun v σ H Q => ∃ ρ env G d env', Rep K g ρ G H ∧ RE K g ρ H env σ ∧ RV K g ρ H d v ∧ t d G env = some env' ∧ ∀ σ', RE K g ρ H env' σ' → But ws σ σ' → Q σ' H
def gmN (i : Nat) : Tm := fun d _ env => some (env.set i (some d))
def gmAll : List Tm → List D → Gh → Ev → Option Ev
  | [], [], _, env => some env
  | t :: ts, d :: ds, G, env => (match t d G env with
    | some env' => gmAll ts ds G env'
    | none => none)
  | _, _, _, _ => none
def gmT (ts : List Tm) : Tm := fun d G env => match d with
  | .tup ds => gmAll ts ds G env
  | .rol ds => gmAll ts ds G env
  | .ref i => (match G.ob i with
    | .lst ds => gmAll ts ds G env
    | _ => none)
  | _ => none
def tGs (K : PySem.W.Frag) (g : Tg) (ts : List Tm) (ws : List Nat) : TGs := fun vs σ H Q => ∃ ρ env G ds env', Rep K g ρ G H ∧ RE K g ρ H env σ ∧ RVs K g ρ H ds vs ∧ gmAll ts ds G env = some env' ∧ ∀ σ', RE K g ρ H env' σ' → But ws σ σ' → Q σ' H
theorem PG.imp {tg : Expr} {t t' : TG} (h : PG X tg t) (k : ∀ v σ H Q, t' v σ H Q → t v σ H Q) : PG X tg t' := ⟨fun pins s σ H v u Q I r q => h.run pins s σ H v u Q I r (k v σ H Q q)⟩
theorem PG.or {tg : Expr} {t t' : TG} (h : PG X tg t) (h' : PG X tg t') : PG X tg fun v σ H Q => t v σ H Q ∨ t' v σ H Q := ⟨fun pins s σ H v u Q I r q => q.elim (h.run pins s σ H v u Q I r) (h'.run pins s σ H v u Q I r)⟩
theorem PGs.imp {tg : List Expr} {t t' : TGs} (h : PGs X tg t) (k : ∀ v σ H Q, t' v σ H Q → t v σ H Q) : PGs X tg t' := ⟨fun pins s σ H v u Q I r q => h.run pins s σ H v u Q I r (k v σ H Q q)⟩
abbrev FG (X : Cx) (g : Tg) (tg : Expr) (t : Tm) (ws : List Nat) : Prop := PG X tg (tG X.K g t ws)
abbrev FGs (X : Cx) (g : Tg) (tg : List Expr) (ts : List Tm) (ws : List Nat) : Prop := PGs X tg (tGs X.K g ts ws)
theorem fg_name (i : Nat) {x : Str} (hN : X.N.Nodup) (hi : X.N[i]? = some x) (hx : Loc X.env.scope x) (hf : X.fn x = true ∨ X.env.scope.names.lookup x = some .local) : FG X g (.Name x pos) (gmN i) [i] := by
  refine PG.imp (pg_name hN hi hx hf) ?_
  rintro v σ H Q ⟨ρ, env, G, d, env', R, E, r, e, k⟩
  cases e
  exact k _ (RE.set r i E) (.set σ i _)
theorem fgs_nil : FGs X g [] [] [] := by
  refine PGs.imp pgs_nil ?_
  rintro v σ H Q ⟨ρ, env, G, ds, env', R, E, r, e, k⟩
  cases ds with
  | nil =>
    cases e
    rw [RVs] at r
    exact ⟨r, k σ E (.refl σ _)⟩
  | cons d ds => cases e
theorem fgs_cons {es : List Expr} {t : Tm} {ts : List Tm} {v1 v2 : List Nat} (h1 : FG X g a t v1) (h2 : FGs X g es ts v2) (hs : (assignEach (a :: es) X.env).map (·.2) = assign a X.env :: (assignEach es X.env).map (·.2) := by rfl) : FGs X g (a :: es) (t :: ts) (v1 ++ v2) := by
  refine PGs.imp (pgs_cons h1 h2 hs) ?_
  rintro v σ H Q ⟨ρ, env, G, ds, env', R, E, r, e, k⟩
  cases ds with
  | nil => cases e
  | cons d ds =>
    rw [RVs] at r
    obtain ⟨w, q, z, r1, r2⟩ := r
    subst z
    rw [gmAll] at e
    split at e
    · rename_i env1 e1
      exact ⟨w, q, rfl, ρ, env, G, d, env1, R, E, r1, e1, fun σ1 E1 b1 => ⟨ρ, env1, G, ds, env', R, E1, r2, e, fun σ2 E2 b2 => k σ2 E2 (b1.trans b2)⟩⟩
    · cases e
theorem gmAll_len {ts : List Tm} : ∀ {ds : List D} {G : Gh} {env env' : Ev}, gmAll ts ds G env = some env' → ds.length = ts.length := by
  induction ts with
  | nil => intro ds G env env' e; cases ds <;> first | rfl | cases e
  | cons t ts ih =>
    intro ds G env env' e
    cases ds with
    | nil => cases e
    | cons d ds =>
      rw [gmAll] at e
      split at e
      · rw [List.length_cons, List.length_cons, ih e]
      · cases e
theorem fg_tup {es : List Expr} {k : Nat} {ts : List Tm} {ws : List Nat} (hc : X.calm = true) (h : FGs X g es ts ws) (hn : (assignEach es X.env).length = ts.length := by rfl) (hst : (assignEach es X.env).findIdx? (·.1) = none := by rfl) : FG X g (.Tuple es k pos) (gmT ts) ws := by
  refine PG.imp (PG.or (pg_tup hc h hn hst) (pg_unl hc h hn hst)) ?_
  rintro v σ H Q ⟨ρ, env, G, d, env', R, E, r, e, k⟩
  unfold gmT at e
  split at e
  · rw [RV] at r
    obtain ⟨p, vs, q, sq, r⟩ := r
    exact .inl ⟨p, vs, q, sq, by rw [r.len, gmAll_len e], ρ, env, G, _, env', R, E, r, e, k⟩
  · rw [RV] at r
    obtain ⟨p, vs, q, sq, r⟩ := r
    exact .inr ⟨p, vs, q, sq.seq, by rw [r.len, gmAll_len e], ρ, env, G, _, env', R, E, r, e, k⟩
  · rw [RV] at r
    obtain ⟨p, q, z⟩ := r
    have o := R.obj _ _ q
    split at e
    · rename_i ds ho
      rw [ho] at o
      obtain ⟨vs, hp, r⟩ := o
      exact .inr ⟨p, vs, z, .of hp, by rw [r.len, gmAll_len e], ρ, env, G, _, env', R, E, r, e, k⟩
    · cases e
  · cases e

/-! ### stores -/
def sAsg (t : Tm) (m : Ev → M D) : Sm := fun env G => exS (m env G) env fun d G1 => match t d G1 env with
  | some env' => .nx env' G1
  | none => .no
theorem asg_run {σ : St} {H : Hp} {D' : Ends} {t : Tm} {ws : List Nat} (h : tS X.K g W (sAsg t ma) D' σ H) : tAsg (tE X.K g W ma) (tG X.K g t ws) D' σ H := by
  obtain ⟨ρ, env, G, R, E, h⟩ := h
  refine tE_run R E (h.ex E) fun d G1 ρ1 H1 x1 R1 h1 v1 r1 => ?_
  split at h1
  · rename_i env' e
    exact ⟨ρ1, env, G1, d, env', R1, E.ext x1, r1, e, fun σ' E' _ => h1.now R1 E'⟩
  · exact h1.elim
theorem fs_set (i : Nat) {x : Str} {pos' : Pos} (hN : X.N.Nodup) (hi : X.N[i]? = some x) (hx : Loc X.env.scope x) (hf : X.fn x = true ∨ X.env.scope.names.lookup x = some .local) (ha : FE X g W a ma) (hs : swapsWith a (some (.Name x pos')) pos.line X.env = pure false := by rfl) :
    FS X g W (.Assign [.Name x pos'] a pos) (sAsg (gmN i) ma) := by
  refine PS.imp (ps_set hN hi hx ha hs hf) ?_
  intro D σ H h
  obtain ⟨ρ, env, G, R, E, h⟩ := h
  exact tE_run R E (h.ex E) fun d G1 ρ1 H1 x1 R1 h1 v1 r1 => h1.now R1 (RE.set r1 i (E.ext x1))
theorem fs_asg {tg : Expr} {t : Tm} {ws : List Nat} (ha : FE X g W a ma) (hg : FG X g tg t ws) (hs : swapsWithSole [tg] a pos.line X.env = pure false := by rfl) (hw : swappedStores [tg] a X.env = pure none := by rfl) (h1 : (assignEach [tg] X.env).map (·.2) = [assign tg X.env] := by rfl) :
    FS X g W (.Assign [tg] a pos) (sAsg t ma) := PS.imp (ps_asg ha hg hs hw h1) fun _ _ _ h => asg_run h
/-- a field is stored: by the object's value and the new one -/
def setFldO (na : Nat → Nat → Bool) (f : Nat) (d v : D) (G : Gh) : Option Gh := match d with
  | .ref i => (match G.ob i with
    | .ins c fs => if na c f = true ∧ fs.length < 1000 then some (G.set i (.ins c (putD fs f v))) else none
    | _ => none)
  | _ => none
def sFld (na : Nat → Nat → Bool) (f : Nat) (mo mv : Ev → M D) : Sm := fun env G => exS (mv env G) env fun v G1 => exS (mo env G1) env fun d G2 => match setFldO na f d v G2 with
  | some G3 => .nx env G3
  | none => .no
theorem setFld_of {ρ : List Addr} {G G' : Gh} {H : Hp} {f : Nat} {d v : D} {x y : V} (hi : FnInj g) (hn : NaOk X.K g na) (R : Rep X.K g ρ G H) (rd : RV X.K g ρ H d x) (rv : RV X.K g ρ H v y) (e : setFldO na f d v G = some G') :
    ∃ a C dx fs, x = .ref a ∧ H a = some (.ins C dx fs) ∧ Cls X.K C ∧ NoAttr X.K C (g.fn f) ∧ fs.length < 1000 ∧ Ext ρ H ρ (upd H a (.ins C dx (L2.putF (g.fn f) y fs))) ∧ Rep X.K g ρ G' (upd H a (.ins C dx (L2.putF (g.fn f) y fs))) := by
  unfold setFldO at e
  split at e
  · rename_i i
    split at e
    · rename_i c fs ho
      split at e
      · rename_i hc
        cases e
        obtain ⟨c1, c2⟩ := hn c f hc.1
        rw [RV] at rd
        obtain ⟨p, e1, e2⟩ := rd
        subst e2
        have o1 := R.obj _ _ e1
        rw [ho] at o1
        obtain ⟨dx, ws, hp, rm⟩ := o1
        obtain ⟨R2, x2⟩ := R.write (o := .ins (g.ca c) dx (L2.putF (g.fn f) y ws)) (ob := .ins c (putD fs f v)) e1 (by rw [ho]; rfl) fun x => ⟨dx, _, upd_same, (RM.putF hi rv rm).ext x⟩
        exact ⟨p, _, dx, ws, rfl, hp, c1, c2, by rw [rm.len]; exact hc.2, x2, R2⟩
      · cases e
    · cases e
  · cases e
theorem fs_fld {f : Nat} {x : Str} {pos' : Pos} (hx : g.fn f = x) (hi : FnInj g) (hn : NaOk X.K g na) (ho : FE X g W o mo) (hv : FE X g W a ma) (hs : swapsWith a (some (.Attribute o x pos')) pos.line X.env = pure false := by rfl) :
    FS X g W (.Assign [.Attribute o x pos'] a pos) (sFld na f mo ma) := by
  refine PS.imp (ps_fld ho hv hs) ?_
  rintro D σ H ⟨ρ, env, G, R, E, h⟩
  refine tE_run R E (h.ex E) fun v G1 ρ1 H1 x1 R1 h1 y r1 => tE_run R1 (E.ext x1) (h1.ex (E.ext x1)) fun d G2 ρ2 H2 x2 R2 h2 z r2 => ?_
  split at h2
  · rename_i G3 e
    obtain ⟨p, C, dx, fs, q1, q2, q3, q4, q5, x3, R3⟩ := setFld_of hi hn R2 r2 (r1.ext x2) e
    rw [hx] at q4 x3 R3
    exact ⟨p, C, dx, fs, q1, q2, q3, q4, q5, h2 ρ2 _ _ x3 R3 (((E.ext x1).ext x2).ext x3)⟩
  · exact h2.elim
/-- o.f op= a -/
def clsO (d : D) (G : Gh) : Option Nat := match d with
  | .ref i => (match G.ob i with
    | .ins c _ => some c
    | _ => none)
  | _ => none
def sFldAug (na : Nat → Nat → Bool) (f : Nat) (op : O2) (mo mv : Ev → M D) : Sm := fun env G => exS (mo env G) env fun d G1 => match fldO na f d G1 with
  | none => .no
  | some w => exS (mv env G1) env fun v G2 => match op w v G2 with
    | none => .no
    | some (z, G3) => if clsO d G3 = clsO d G1 then (match setFldO na f d z G3 with
      | some G4 => .nx env G4
      | none => .no) else .no
theorem fldO_of {ρ : List Addr} {G : Gh} {H : Hp} {f : Nat} {d w : D} {x : V} (hi : FnInj g) (hn : NaOk X.K g na) (R : Rep X.K g ρ G H) (rd : RV X.K g ρ H d x) (e : fldO na f d G = some w) :
    ∃ a c dx fs v, clsO d G = some c ∧ x = .ref a ∧ H a = some (.ins (g.ca c) dx fs) ∧ Cls X.K (g.ca c) ∧ NoAttr X.K (g.ca c) (g.fn f) ∧ fs.lookup (g.fn f) = some v ∧ RV X.K g ρ H w v := by
  unfold fldO at e
  split at e
  · rename_i i
    split at e
    · rename_i c fs ho
      split at e
      · rename_i hc
        obtain ⟨c1, c2⟩ := hn c f hc
        rw [RV] at rd
        obtain ⟨p, e1, e2⟩ := rd
        subst e2
        have o1 := R.obj _ _ e1
        rw [ho] at o1
        obtain ⟨dx, ws, hp, rm⟩ := o1
        obtain ⟨u, l, ru⟩ := RM.fld hi rm e
        exact ⟨p, c, dx, ws, u, by unfold clsO; simp only [ho], rfl, hp, c1, c2, l, ru⟩
      · cases e
    · cases e
  · cases e
theorem clsO_of {ρ : List Addr} {G : Gh} {H : Hp} {d : D} {a : Addr} {c : Nat} {C dx : Addr} {fs : List (Str × V)} (R : Rep X.K g ρ G H) (rd : RV X.K g ρ H d (.ref a)) (e : clsO d G = some c) (h : H a = some (.ins C dx fs)) : C = g.ca c := by
  unfold clsO at e
  split at e
  · rename_i i
    split at e
    · rename_i c' fs' ho
      cases e
      rw [RV] at rd
      obtain ⟨p, e1, e2⟩ := rd
      cases e2
      have o1 := R.obj _ _ e1
      rw [ho] at o1
      obtain ⟨dx', ws, hp, rm⟩ := o1
      rw [h] at hp
      cases hp
      rfl
    · cases e
  · cases e
theorem fs_fldaug {op : Operator} {f : Nat} {x : Str} {h2 : O2} (hx : g.fn f = x) (hi : FnInj g) (hn : NaOk X.K g na) (hop : OpF X g (inplaceOp op) h2) (ho : FE X g W o mo) (hv : FE X g W a ma) : FS X g W (.AugAssign (.Attribute o x tpos) op a pos) (sFldAug na f h2 mo ma) := by
  have hop' : InOp X op (rF X.K g h2) := fun pins s σ H x y u v Q I rx ry q => hop pins s σ H x y u v Q I rx ry q
  refine PS.imp (ps_fldaug ho hv hop') ?_
  rintro D σ H ⟨ρ, env, G, R, E, h⟩
  refine tE_run R E (h.ex E) fun d G1 ρ1 H1 x1 R1 h1 y r1 => ?_
  split at h1
  · exact h1.elim
  · rename_i w z
    obtain ⟨p, c, dx, fs, u, q0, q1, q2, q3, q4, q5, ru⟩ := fldO_of hi hn R1 r1 z
    rw [hx] at q4 q5
    refine ⟨p, _, dx, fs, u, q1, q2, q3, q4, q5, tE_run R1 (E.ext x1) (h1.ex (E.ext x1)) fun v G2 ρ2 H2 x2 R2 h3 z r2 => ?_⟩
    split at h3
    · exact h3.elim
    · rename_i d' G3 e3
      refine ⟨ρ2, G2, w, v, R2, ru.ext x2, r2, d', G3, e3, fun y' ρ3 H3 x3 R3 r3 => ?_⟩
      split at h3
      · rename_i hcc
        split at h3
        · rename_i G4 e4
          have rd := (r1.ext x2).ext x3
          obtain ⟨p', C', dx', fs', w1, w2, w3, w4, w5, x4, R4⟩ := setFld_of hi hn R3 rd r3 e4
          rw [q1] at w1 rd
          cases w1
          have hC := clsO_of R3 rd (hcc.trans q0) w2
          subst hC
          rw [hx] at x4 R4
          exact ⟨dx', fs', w2, w5, h3 ρ3 _ _ (x3.trans x4) R4 ((((E.ext x1).ext x2).ext x3).ext x4)⟩
        · exact h3.elim
      · exact h3.elim
/-- a name op= a -/
def sAug (i : Nat) (op : O2) (m : Ev → M D) : Sm := fun env G => match env[i]? with
  | some (some w) => exS (m env G) env fun v G1 => (match op w v G1 with
    | some (z, G2) => .nx (env.set i (some z)) G2
    | none => .no)
  | _ => .no
theorem fs_aug (i : Nat) {op : Operator} {x : Str} {pos' : Pos} {h2 : O2} (hN : X.N.Nodup) (hi : X.N[i]? = some x) (hx : Loc X.env.scope x) (hf : X.fn x = true ∨ X.env.scope.names.lookup x = some .local) (hop : OpF X g (inplaceOp op) h2) (hv : FE X g W a ma) : FS X g W (.AugAssign (.Name x pos') op a pos) (sAug i h2 ma) := by
  have hop' : PIp X op (rF X.K g h2) := fun pins s σ H x y u v Q I rx ry q => hop pins s σ H x y u v Q I rx ry q
  refine PS.imp (ps_aug hN hi hx hv hop' hf) ?_
  rintro D σ H ⟨ρ, env, G, R, E, h⟩
  unfold sAug at h
  split at h
  · rename_i w e
    obtain ⟨u, e1, ru⟩ := E.get e
    refine ⟨u, e1, tE_run R E (h.ex E) fun v G1 ρ1 H1 x1 R1 h1 y r1 => ?_⟩
    split at h1
    · rename_i z G2 e2
      exact ⟨ρ1, G1, w, v, R1, ru.ext x1, r1, z, G2, e2, fun y' ρ2 H2 x2 R2 r2 => h1 ρ2 H2 _ x2 R2 (RE.set r2 i ((E.ext x1).ext x2))⟩
    · exact h1.elim
  · exact h.elim
/-- += of ints and texts -/
def opIadd : O2 := fun x y G => match x, y with
  | .int i, .int j => some (.int (i + j), G)
  | .str a, .str b => if a.length + b.length ≤ sizeLine then some (.str (a ++ b), G) else none
  | _, _ => none
theorem of_iadd : OpF X g (inplaceOp .Add) opIadd := by
  intro pins s σ H x y v u Q I rx ry hh
  obtain ⟨ρ, G, a, b, R, ra, rb, d, G', e, k⟩ := hh
  unfold opIadd at e
  split at e
  · cases (show x = .int _ from ra); cases (show y = .int _ from rb); cases e
    exact iop_add pins s σ H _ _ v u Q I rx ry ⟨_, _, rfl, rfl, k _ ρ H (.refl _ _) R rfl⟩
  · cases (show x = .str _ from ra); cases (show y = .str _ from rb)
    split at e
    · cases e
      exact iop_add_str pins s σ H _ _ v u Q I rx ry ⟨_, _, rfl, rfl, by assumption, k _ ρ H (.refl _ _) R rfl⟩
    · cases e
  · cases e
theorem of_isub : OpF X g (inplaceOp .Sub) opSub := by
  intro pins s σ H x y v u Q I rx ry hh
  obtain ⟨ρ, G, a, b, R, ra, rb, d, G', e, k⟩ := hh
  unfold opSub at e
  split at e
  · cases (show x = .int _ from ra); cases (show y = .int _ from rb); cases e
    exact iop_sub pins s σ H _ _ v u Q I rx ry ⟨_, _, rfl, rfl, k _ ρ H (.refl _ _) R rfl⟩
  · cases e
/-- o[i] = v -/
def setO (o i v : D) (G : Gh) : Option Gh := match o with
  | .ref l => (match G.ob l with
    | .lst xs => (match i with
      | .int k => (match ixN xs.length k with
        | some j => some (G.set l (.lst (xs.set j v)))
        | none => none)
      | _ => none)
    | .dct kvs => (match keyD i with
      | some k => if kvs.length < sizeLine then some (G.set l (.dct (putD kvs k v))) else none
      | none => none)
    | _ => none)
  | _ => none
def sSub (mo mi mv : Ev → M D) : Sm := fun env G => exS (mv env G) env fun v G1 => exS (mo env G1) env fun d G2 => exS (mi env G2) env fun i G3 => match setO d i v G3 with
  | some G4 => .nx env G4
  | none => .no
theorem RM.keys {K : PySem.W.Frag} {ρ : List Addr} {H : Hp} {κ κ' : Type} {f : κ → κ'} : ∀ {l : List (κ × D)} {ws : List (κ' × V)}, RM K g ρ H f l ws → ws.map (·.1) = l.map fun p => f p.1
  | [], _, h => by rw [RM] at h; subst h; rfl
  | (j, e) :: t, _, h => by
    rw [RM] at h
    obtain ⟨w, q, z, h1, h2⟩ := h
    subst z
    rw [List.map_cons, List.map_cons, RM.keys h2]
theorem RM.put {K : PySem.W.Frag} {ρ : List Addr} {H : Hp} {κ : Type} [DecidableEq κ] {k : κ} {d : D} {v : V} (r : RV K g ρ H d v) : ∀ {l : List (κ × D)} {ws : List (κ × V)}, RM K g ρ H id l ws → (l.map (·.1)).Nodup → RM K g ρ H id (putD l k d) (putK ws k v)
  | [], _, h, _ => by
    rw [RM] at h; subst h
    rw [putD]
    unfold putK
    simp only [List.any_nil, Bool.false_eq_true, if_false, List.nil_append]
    rw [RM]
    exact ⟨v, [], rfl, r, by rw [RM]⟩
  | (j, e) :: t, _, h, nd => by
    rw [RM] at h
    obtain ⟨w, q, z, h1, h2⟩ := h
    subst z
    rw [List.map_cons, List.nodup_cons] at nd
    have ih := RM.put (k := k) r h2 nd.2
    by_cases z : j = k
    · subst z
      have e2 : putK ((id j, w) :: q) j v = (j, v) :: q := by
        unfold putK
        rw [List.any_cons, show decide ((id j, w).1 = j) = true from decide_eq_true rfl, Bool.true_or, if_pos rfl, List.map_cons, if_pos (show (id j, w).1 = j from rfl)]
        show (j, v) :: _ = _
        congr 1
        refine (List.map_congr_left fun p hp => if_neg fun e => nd.1 ?_).trans (List.map_id _)
        have hk := RM.keys h2
        have hm : p.1 ∈ q.map (·.1) := List.mem_map.mpr ⟨p, hp, rfl⟩
        rw [hk, e] at hm
        exact hm
      rw [putD, if_pos rfl, e2, RM]
      exact ⟨v, q, rfl, r, h2⟩
    · have e2 : putK ((id j, w) :: q) k v = (id j, w) :: putK q k v := by
        unfold putK
        rw [List.any_cons, show decide ((id j, w).1 = k) = false from decide_eq_false z, Bool.false_or]
        split
        · rw [List.map_cons, if_neg (show ¬ (id j, w).1 = k from z)]
        · rfl
      rw [putD, if_neg z, e2, RM]
      exact ⟨w, _, rfl, h1, ih⟩
theorem putD_keys {κ : Type} [DecidableEq κ] {k : κ} {d : D} : ∀ (l : List (κ × D)) x, x ∈ (putD l k d).map (·.1) → x = k ∨ x ∈ l.map (·.1)
  | [], x, h => by
    rw [putD] at h
    exact .inl (by simpa using h)
  | (j, e) :: t, x, h => by
    by_cases z : j = k
    · rw [putD, if_pos z] at h
      exact .inr h
    · rw [putD, if_neg z, List.map_cons, List.mem_cons] at h
      rcases h with h | h
      · exact .inr (by rw [List.map_cons]; exact List.mem_cons.mpr (.inl h))
      · rcases putD_keys t x h with h | h
        · exact .inl h
        · exact .inr (by rw [List.map_cons]; exact List.mem_cons_of_mem _ h)
theorem putD_nodup {κ : Type} [DecidableEq κ] {k : κ} {d : D} : ∀ {l : List (κ × D)}, (l.map (·.1)).Nodup → ((putD l k d).map (·.1)).Nodup
  | [], _ => by rw [putD]; simp
  | (j, e) :: t, h => by
    rw [List.map_cons, List.nodup_cons] at h
    by_cases z : j = k
    · rw [putD, if_pos z, List.map_cons, List.nodup_cons]
      exact h
    · rw [putD, if_neg z, List.map_cons, List.nodup_cons]
      refine ⟨fun m => ?_, putD_nodup h.2⟩
      rcases putD_keys t _ m with q | q
      · exact z q
      · exact h.1 q
/-- by values -/
def rSetF (K : PySem.W.Frag) (g : Tg) : TSet := fun o i v H Q => ∃ ρ G a b c, Rep K g ρ G H ∧ RV K g ρ H a o ∧ RV K g ρ H b i ∧ RV K g ρ H c v ∧ ∃ G', setO a b c G = some G' ∧ ∀ H', Ext ρ H ρ H' → Rep K g ρ G' H' → Q H'
theorem set_of (hu : X.A.units + 1 < cLine) : PSet X (rSetF X.K g) := by
  intro pins s σ H o i v ov iv u Q I ro ri rv hh
  obtain ⟨ρ, G, a, b, c, R, ra, rb, rc, G', e, k⟩ := hh
  unfold setO at e
  split at e
  · rename_i l
    rw [RV] at ra
    obtain ⟨p, q, z⟩ := ra
    subst z
    have o1 := R.obj _ _ q
    split at e
    · rename_i xs ho
      rw [ho] at o1
      obtain ⟨vs, hp, r⟩ := o1
      split at e
      · rename_i kk
        cases (show i = .int kk from rb)
        split at e
        · rename_i j hj
          cases e
          obtain ⟨R2, x2⟩ := R.write (o := .lst (vs.set j v)) (ob := .lst (xs.set j c)) q (by rw [ho]; rfl) fun x => ⟨_, upd_same, (r.set rc j).ext x⟩
          exact set_list pins s σ H _ _ v ov iv u Q I ro ri rv ⟨p, vs, kk, j, rfl, rfl, hp, by rw [r.len]; exact hj, k _ x2 R2⟩
        · cases e
      · cases e
    · rename_i kvs ho
      rw [ho] at o1
      obtain ⟨ws, hp, r, nd⟩ := o1
      split at e
      · rename_i kk hk
        split at e
        · rename_i hz
          cases e
          obtain rfl : ov = Value.ref p := ro
          obtain ⟨R2, x2⟩ := R.write (o := .dK (putK ws kk v)) (ob := .dct (putD kvs kk c)) q (by rw [ho]; rfl) fun x => ⟨_, upd_same, (RM.put rc r nd).ext x, putD_nodup nd⟩
          exact d_setItem hu I (.inl ⟨ws, kk, hp, key_of' rb hk, by rw [r.len]; exact hz, rfl⟩) ri rv fun s4 I4 => ⟨_, I4, k _ x2 R2⟩
        · cases e
      · cases e
    · cases e
  · cases e
theorem fs_sub {b : Expr} {mi : Ev → M D} {pos' : Pos} (hu : X.A.units + 1 < cLine) (ho : FE X g W o mo) (hi : FE X g W b mi) (hv : FE X g W a ma) (hs : swapsWithSole [.Subscript o b pos'] a pos.line X.env = pure false := by rfl) (hw : swappedStores [.Subscript o b pos'] a X.env = pure none := by rfl)
    (h1 : (assignEach [.Subscript o b pos'] X.env).map (·.2) = [assign (.Subscript o b pos') X.env] := by rfl)
    (q : ∀ v, assign (.Subscript o b pos') X.env v = (do let ov ← holding [v] (eval o X.env); let iv ← holding [v, ov] (eval b X.env); standAt pos'; holding [v, ov, iv] (setItem ov iv v); release [v, ov, iv] []) := by intro _; rfl) :
    FS X g W (.Assign [.Subscript o b pos'] a pos) (sSub mo mi ma) := by
  refine PS.imp (ps_asg hv (pg_sub ho hi (set_of (g := g) hu) q) hs hw h1) ?_
  rintro D σ H ⟨ρ, env, G, R, E, h⟩
  refine tE_run R E (h.ex E) fun v G1 ρ1 H1 x1 R1 h1 y r1 => tE_run R1 (E.ext x1) (h1.ex (E.ext x1)) fun d G2 ρ2 H2 x2 R2 h2 z r2 => tE_run R2 ((E.ext x1).ext x2) (h2.ex ((E.ext x1).ext x2)) fun i G3 ρ3 H3 x3 R3 h3 w r3 => ?_
  split at h3
  · rename_i G4 e
    exact ⟨ρ3, G3, d, i, v, R3, r2.ext x3, r3, (r1.ext x2).ext x3, G4, e, fun H4 x4 R4 => h3 ρ3 H4 _ x4 R4 ((((E.ext x1).ext x2).ext x3).ext x4)⟩
  · exact h3.elim
/-- an object of the heap -/
def isRef : D → Bool
  | .ref _ => true
  | _ => false
/-- o[i] op= v -/
def sSubAug (op : O2) (mo mi mv : Ev → M D) : Sm := fun env G => exS (mo env G) env fun d G1 => exS (mi env G1) env fun i G2 => match ixD d i G2 with
  | none => .no
  | some w => if isRef d = true then exS (mv env G2) env fun v G3 => (match op w v G3 with
    | none => .no
    | some (z, G4) => match setO d i z G4 with
      | some G5 => .nx env G5
      | none => .no) else .no
def rGetF (K : PySem.W.Frag) (g : Tg) : V → V → Hp → VK → Prop := fun o i H Q => ∃ ρ G a b, Rep K g ρ G H ∧ RV K g ρ H a o ∧ RV K g ρ H b i ∧ (∃ l, a = .ref l) ∧ ∃ d, ixD a b G = some d ∧ ∀ v, RV K g ρ H d v → Q v H
theorem get_of (hu : X.A.units + 1 < cLine) : PGet X (rGetF X.K g) := by
  intro pins s σ H o i ov iv Q I ro ri hh
  obtain ⟨ρ, G, a, b, R, ra, rb, ⟨l, el⟩, d, e, k⟩ := hh
  subst el
  rw [RV] at ra
  obtain ⟨p, q, z⟩ := ra
  subst z
  have o1 := R.obj _ _ q
  unfold ixD at e
  dsimp only at e
  obtain rfl : ov = Value.ref p := ro
  split at e
  · rename_i xs ho
    rw [ho] at o1
    obtain ⟨vs, hp, r⟩ := o1
    split at e
    · rename_i kk
      cases (show i = .int kk from rb)
      obtain ⟨w, ew, rw'⟩ := RVs.atI r e
      obtain ⟨t, rfl⟩ := ri
      obtain ⟨its, n, r2, ho2, hz⟩ := I.lst hp
      obtain ⟨j, h1, h2, h3, h4, h5⟩ := atI_get ew
      obtain ⟨w2, ew2, rw2⟩ := r2.get h2
      have hl := r2.length
      have hn := line63
      have fin : EP X pins σ Q w2 s := ⟨w, H, I, rw2, k w rw'⟩
      have hL : s.heap.IsList p its.toArray := ⟨_, ho2, rfl, n, rfl⟩
      by_cases h0 : 0 ≤ kk
      · have hj : kk.toNat = j := by
          rw [seqIndex_of h0 h5] at h1
          exact Option.some.inj h1
        exact wpAny_getItem_list hL h0 (by omega) (by rw [hj]; simpa using ew2) fin
      · have hj : (kk + (its.toArray.size : Int)).toNat = j := by
          rw [seqIndex_neg (by omega) h4] at h1
          have := Option.some.inj h1
          simp only [List.size_toArray]
          rw [← hl]; exact this
        exact PySem.wpAny_getItem_list_neg hL (by omega) (by simp only [List.size_toArray]; omega) (by omega) (by rw [hj]; simpa using ew2) fin
    · cases e
  · rename_i kvs ho
    rw [ho] at o1
    obtain ⟨ws, hp, r, nd⟩ := o1
    obtain ⟨kk', z1, z2⟩ := Option.bind_eq_some_iff.mp e
    obtain ⟨w, ew, rw'⟩ := (RM.val r).1 _ z2
    exact d_getItem hu I (.inl ⟨ws, kk', .inl hp, key_of' rb z1, ew.symm⟩) ri fun w' s3 I3 rw2 => ⟨w, H, I3, rw2, k w rw'⟩
  · rename_i kvs ho
    rw [ho] at o1
    obtain ⟨ob, ws, hp, r, nd⟩ := o1
    obtain ⟨kk', z1, z2⟩ := Option.bind_eq_some_iff.mp e
    obtain ⟨w, ew, rw'⟩ := (RM.val r).1 _ z2
    exact d_getItem hu I (.inl ⟨ws, kk', .inr ⟨ob, hp⟩, key_of' rb z1, ew.symm⟩) ri fun w' s3 I3 rw2 => ⟨w, H, I3, rw2, k w rw'⟩
  · cases e
theorem ixD_ref {d i w : D} {G : Gh} (h : ixD d i G = some w) (n : isRef d = true) : ∃ l, d = .ref l := by
  cases d with
  | ref l => exact ⟨l, rfl⟩
  | _ => cases n
theorem fs_subaug {op : Operator} {b : Expr} {mi : Ev → M D} {f2 : O2} (hu : X.A.units + 1 < cLine) (ho : FE X g W o mo) (hi : FE X g W b mi) (hop : OpF X g (inplaceOp op) f2) (hv : FE X g W a ma)
    (q : ∀ ov iv new, augStore b ov iv new = (do holding [new, ov, iv] (setItem ov iv new); release [new, ov, iv] []; pure .next) := by intros; rfl) : FS X g W (.AugAssign (.Subscript o b tpos) op a pos) (sSubAug f2 mo mi ma) := by
  have hop' : PIp X op (rF X.K g f2) := fun pins s σ H x y u v Q I rx ry q => hop pins s σ H x y u v Q I rx ry q
  refine PS.imp (ps_augS ho hi (get_of (g := g) hu) hv hop' (set_of (g := g) hu) q) ?_
  rintro D σ H ⟨ρ, env, G, R, E, h⟩
  refine tE_run R E (h.ex E) fun d G1 ρ1 H1 x1 R1 h1 y r1 => tE_run R1 (E.ext x1) (h1.ex (E.ext x1)) fun i G2 ρ2 H2 x2 R2 h2 z r2 => ?_
  have E2 := (E.ext x1).ext x2
  split at h2
  · exact h2.elim
  · rename_i w e1
    split at h2
    · rename_i hr
      obtain ⟨l, hl⟩ := ixD_ref e1 hr
      refine ⟨ρ2, G2, d, i, R2, r1.ext x2, r2, ⟨l, hl⟩, w, e1, fun u ru => tE_run R2 E2 (h2.ex E2) fun v G3 ρ3 H3 x3 R3 h3 y3 r3 => ?_⟩
      split at h3
      · exact h3.elim
      · rename_i d' G4 e4
        refine ⟨ρ3, G3, w, v, R3, ru.ext x3, r3, d', G4, e4, fun y4 ρ4 H4 x4 R4 r4 => ?_⟩
        split at h3
        · rename_i G5 e5
          exact ⟨ρ4, G4, d, i, d', R4, ((r1.ext x2).ext x3).ext x4, (r2.ext x3).ext x4, r4, G5, e5, fun H5 x5 R5 => h3 ρ4 H5 _ (x4.trans x5) R5 (((E2.ext x3).ext x4).ext x5)⟩
        · exact h3.elim
    · exact h2.elim
end
end Mi
/-! F, part 6: raise, try, loops, comprehensions. -/
namespace Mi
open PySem PySem.Spec PyProof.Rows L2

/-! ### raise -/
/-- what a class must be that is raised -/
structure ExcOk (K : PySem.W.Frag) (a : Addr) : Prop where
  q : PySem.W.excIn K a He.veBase "ValueError.__new__" = true
  kp : PySem.W.keepIn K (.ref a) = true
  sub : PySem.W.subIn K (.ref a) (.type "BaseException") = some true
  ty : PySem.W.typeIn K (.ref a) = some (.type "type")
def sRaise (c : Nat) : Sm := fun env G => .er c env G
section
variable {X : Cx} {g : Tg} {W : WX} {pos pos' tpos p p2 np : Pos} {a b e o : Expr} {ma mb mo : Ev → M D} {st b₀ : Stmt} {rest sa sb body suite : List Stmt} {m n m' : Sm}
theorem fs_raise {c j : Nat} {x z : Str} (hc : X.calm = true) (tk : L2N.Takes X W) (hx : ExcOk X.K (g.ca c)) (gC : X.mg x = some (.ref (g.ca c))) (hg : Gl X x) (hd : (x == ("__debug__" : Str)) = false := by decide) :
    FS X g W (.Raise (some (.Call (.Name x p) [.Constant (.str z) j p2] [] pos)) none pos') (sRaise c) := by
  refine PS.imp (L2N.ps_raise hc tk (L2N.pmk_own PySem.F.excBase_ValueError hx.q gC hx.kp (raises_own hx.sub hx.ty) hg hd)) ?_
  rintro D σ H ⟨ρ, env, G, R, E, h⟩
  exact h ρ H σ (.refl _ _) R E

/-! ### try -/
def Ro.clr (i : Nat) : Ro → Ro
  | .nx env G => .nx (env.set i none) G
  | .rt d G => .rt d G
  | .bk env G => .bk (env.set i none) G
  | .ct env G => .ct (env.set i none) G
  | .er _ _ _ => .no
  | .no => .no
def Ro.noE : Ro → Ro
  | .er _ _ _ => .no
  | r => r
/-- sb c: whether the clause names the class c -/
def sTryAs (sb : Nat → Option Bool) (i : Nat) (mb : Sm) (hm : Nat → Sm) : Sm := fun env G => match mb env G with
  | .er c env' G' => (match sb c with
    | some true => if i < env'.length then (hm c env' G').clr i else .no
    | some false => .er c env' G'
    | none => .no)
  | r => r
def sTry (sb : Nat → Option Bool) (mb : Sm) (hm : Sm) : Sm := fun env G => match mb env G with
  | .er c env' G' => (match sb c with
    | some true => (hm env' G').noE
    | some false => .er c env' G'
    | none => .no)
  | r => r
theorem RE.len {K : PySem.W.Frag} {ρ : List Addr} {H : Hp} : ∀ {env : Ev} {σ : St}, RE K g ρ H env σ → σ.length = env.length
  | [], _, h => by rw [RE] at h; subst h; rfl
  | none :: r, _, h => by
    rw [RE] at h
    obtain ⟨y, q, e, h2⟩ := h
    subst e
    rw [List.length_cons, List.length_cons, RE.len h2]
  | some d :: r, _, h => by
    rw [RE] at h
    obtain ⟨v, q, e, _, h2⟩ := h
    subst e
    rw [List.length_cons, List.length_cons, RE.len h2]
theorem fs_tryAs {cc i : Nat} {x y : Str} {sb : Nat → Option Bool} {hm : Nat → Sm} {hm' : Addr → Nat → Sm} (hs : X.stack = X.env :: X.outer) (hf : X.env.frame = some X.env.locals) (hN : X.N.Nodup) (hi : X.N[i]? = some y) (hln : X.env.kindOf y = some .local)
    (hc : Names X x (.ref (g.ca cc))) (tk : L2N.Takes X W) (hsb : ∀ c b, sb c = some b → PySem.W.exmOne X.K (.ref (g.ca c)) (.ref (g.ca cc)) = some b)
    (hb : ∀ (W : WX) (pn : List (Addr × Obj)) (xe : Value → Shared → Prop), L2N.Takes (X.tr pn xe) W → PassesOwn (model X.prog X.w) X.A X.env xe → FSs (X.tr pn xe) g W body m)
    (hsu : ∀ (a : Addr) (oe : Obj) (c : Nat) (pn : List (Addr × Obj)), L2N.Zn (.ref (g.ca c)) none oe → (∃ vs, oe.data = .fields vs) → FSs (X.suite a ((a, oe) :: pn)) g (fun _ _ _ _ => False) (b₀ :: suite) (hm' a c))
    (he : ∀ a c env G, i < env.length → (hm' a c (env.set i (some (.exc a))) G).clr i = (hm c env G).clr i) :
    FS X g W (.Try body [.ExceptHandler (some (.Name x np)) (some y) (b₀ :: suite) pos'] [] [] pos) (sTryAs sb i m hm) := by
  have hsu' : ∀ (a : Addr) (oe : Obj) (cls : Value) (d : Option Addr) (pn : List (Addr × Obj)), L2N.Zn cls d oe → (∃ vs, oe.data = .fields vs) →
      PSs (X.suite a ((a, oe) :: pn)) (b₀ :: suite) (fun D σ H => ∃ c, cls = .ref (g.ca c) ∧ d = none ∧ tS X.K g (fun _ _ _ _ => False) (hm' a c) D σ H) := fun a oe cls d pn z v =>
    ⟨fun pins s σ H D I q => by
      obtain ⟨c, e1, e2, q⟩ := q
      subst e1 e2
      exact (hsu a oe c pn z v).run pins s σ H D I q⟩
  refine PS.imp (L2N.ps_try_as hs hf hN hi hln hc tk (tb := fun W' => tS X.K g W' m) hb hsu') ?_
  rintro D σ H ⟨ρ, env, G, R, E, h⟩
  refine ⟨ρ, env, G, R, E, ?_⟩
  unfold sTryAs at h
  cases z : m env G with
  | er c env' G' =>
    rw [z] at h
    dsimp only at h
    intro ρ' H' σ' x1 R1 E1
    cases zb : sb c with
    | none => rw [zb] at h; exact h.elim
    | some b =>
      rw [zb] at h
      refine ⟨b, hsb c b zb, fun eb a ha => ?_, fun eb => ?_⟩
      · subst eb
        refine ⟨c, rfl, rfl, ρ', _, G', R1, RE.set (d := .exc a) rfl i E1, ?_⟩
        dsimp only at h
        split at h
        · rename_i hl
          have h := h.start x1
          rw [← he a c env' G' hl] at h
          cases z2 : hm' a c (env'.set i (some (.exc a))) G' with
          | nx e2 G2 =>
            rw [z2] at h
            exact fun ρ2 H2 σ2 x2 R2 E2 => h ρ2 H2 _ x2 R2 (RE.unset i none E2)
          | rt d G2 => rw [z2] at h; exact h
          | bk e2 G2 =>
            rw [z2] at h
            exact fun ρ2 H2 σ2 x2 R2 E2 => h ρ2 H2 _ x2 R2 (RE.unset i none E2)
          | ct e2 G2 =>
            rw [z2] at h
            exact fun ρ2 H2 σ2 x2 R2 E2 => h ρ2 H2 _ x2 R2 (RE.unset i none E2)
          | er c2 e2 G2 => rw [z2] at h; exact h.elim
          | no => rw [z2] at h; exact h.elim
        · exact h.elim
      · subst eb
        exact h ρ' H' σ' x1 R1 E1
  | nx env' G' => rw [z] at h; exact h
  | rt d G' => rw [z] at h; exact h
  | bk env' G' => rw [z] at h; exact h
  | ct env' G' => rw [z] at h; exact h
  | no => rw [z] at h; exact h
theorem fs_try {cc : Nat} {x : Str} {sb : Nat → Option Bool} {hm : Sm} (hs : X.stack = X.env :: X.outer) (hf : X.env.frame = some X.env.locals)
    (hc : Names X x (.ref (g.ca cc))) (tk : L2N.Takes X W) (hsb : ∀ c b, sb c = some b → PySem.W.exmOne X.K (.ref (g.ca c)) (.ref (g.ca cc)) = some b)
    (hb : ∀ (W : WX) (pn : List (Addr × Obj)) (xe : Value → Shared → Prop), L2N.Takes (X.tr pn xe) W → PassesOwn (model X.prog X.w) X.A X.env xe → FSs (X.tr pn xe) g W body m)
    (hsu : ∀ (a : Addr) (oe : Obj) (cls : Value) (d : Option Addr) (pn : List (Addr × Obj)), L2N.Zn cls d oe → (∃ vs, oe.data = .fields vs) → FSs (X.suite a ((a, oe) :: pn)) g (fun _ _ _ _ => False) (b₀ :: suite) hm) :
    FS X g W (.Try body [.ExceptHandler (some (.Name x np)) none (b₀ :: suite) pos'] [] [] pos) (sTry sb m hm) := by
  refine PS.imp (L2N.ps_try_many hs hf tk (tb := fun W' => tS X.K g W' m) hb (.cons (ts := fun _ _ _ => tS X.K g (fun _ _ _ _ => False) hm) hc hsu .nil)) ?_
  rintro D σ H ⟨ρ, env, G, R, E, h⟩
  refine ⟨ρ, env, G, R, E, ?_⟩
  unfold sTry at h
  cases z : m env G with
  | er c env' G' =>
    rw [z] at h
    dsimp only at h
    intro ρ' H' σ' x1 R1 E1
    cases zb : sb c with
    | none => rw [zb] at h; exact h.elim
    | some b =>
      rw [zb] at h
      refine ⟨b, hsb c b zb, fun eb a ha => ?_, fun eb => ?_⟩
      · subst eb
        refine ⟨ρ', _, G', R1, E1, ?_⟩
        have h := h.start x1
        dsimp only at h
        cases z2 : hm env' G' with
        | er c2 e2 G2 => rw [z2] at h; exact h.elim
        | nx e2 G2 => rw [z2] at h; exact h
        | rt d G2 => rw [z2] at h; exact h
        | bk e2 G2 => rw [z2] at h; exact h
        | ct e2 G2 => rw [z2] at h; exact h
        | no => rw [z2] at h; exact h
      · subst eb
        exact h ρ' H' σ' x1 R1 E1
  | nx env' G' => rw [z] at h; exact h
  | rt d G' => rw [z] at h; exact h
  | bk env' G' => rw [z] at h; exact h
  | ct env' G' => rw [z] at h; exact h
  | no => rw [z] at h; exact h

/-! ### what a loop walks -/
/-- n: turns at most; at_ i: the item of turn i, or the end -/
structure Im where
  n : Nat
  at_ : Nat → Gh → Option (Option D)
def ItOk (K : PySem.W.Frag) (g : Tg) (ρ0 : List Addr) (H0 : Hp) (J : It) (it : Im) : Prop := ∀ i ρ G H, Ext ρ0 H0 ρ H → Rep K g ρ G H →
  (it.at_ i G = some none → J.stop i H) ∧ ∀ d, it.at_ i G = some (some d) → J.go i H ∧ ∀ x H', J.yld i H x H' → Ext ρ H ρ H' ∧ Rep K g ρ G H' ∧ RV K g ρ H' d x
def tI (K : PySem.W.Frag) (g : Tg) (W : WX) (m : Ev → M Im) : TI := fun σ H R => ∃ ρ env G, Rep K g ρ G H ∧ RE K g ρ H env σ ∧ Po K g W σ ρ H (m env G) fun it _ ρ' H' => ∀ J, ItOk K g ρ' H' J it → R J H'
abbrev FI (X : Cx) (g : Tg) (W : WX) (tg iter : Expr) (m : Ev → M Im) : Prop := PI X tg iter (tI X.K g W m)
theorem PI.imp {tg iter : Expr} {t t' : TI} (h : PI X tg iter t) (k : ∀ σ H R, t' σ H R → t σ H R) : PI X tg iter t' := ⟨fun pins s σ H R I q => h.run pins s σ H R I (k σ H R q)⟩
theorem tI_of {mi : Ev → M Im} {σ : St} {H : Hp} {R : It → Hp → Prop} {ma : Ev → M D} {f : D → Gh → Option Im} (hm : ∀ env G, mi env G = (ma env G).bind fun d G1 => match f d G1 with | some it => .ok it G1 | none => .no) (h : tI X.K g W mi σ H R) :
    tE X.K g W ma σ H fun x H1 => ∃ ρ G d it, Rep X.K g ρ G H1 ∧ RV X.K g ρ H1 d x ∧ f d G = some it ∧ ∀ J, ItOk X.K g ρ H1 J it → R J H1 := by
  obtain ⟨ρ, env, G, R0, E, h⟩ := h
  rw [hm] at h
  refine tE_run R0 E h.bind fun d G1 ρ1 H1 x1 R1 h1 v1 r1 => ?_
  cases z : f d G1 with
  | none => rw [z] at h1; exact h1.elim
  | some it => rw [z] at h1; exact ⟨ρ1, G1, d, it, R1, r1, z, h1.now R1⟩
/-- over a value: tuple, list, text -/
def seqI (d : D) (G : Gh) : Option Im := match d with
  | .tup xs => some ⟨xs.length, fun i _ => some xs[i]?⟩
  | .rol xs => some ⟨xs.length, fun i _ => some xs[i]?⟩
  | .str z => some ⟨z.cps.size, fun i _ => some (z.cps[i]?.map fun c => .str ⟨#[c]⟩)⟩
  | .ref l => (match G.ob l with
    | .lst xs => some ⟨xs.length, fun i G => match G.ob l with
      | .lst xs => some xs[i]?
      | _ => none⟩
    | _ => none)
  | _ => none
def iSeq (m : Ev → M D) : Ev → M Im := fun env G => (m env G).bind fun d G1 => match seqI d G1 with
  | some it => .ok it G1
  | none => .no
/-- what an iterator of the value x is -/
theorem it_any {pins : List (Addr × Obj)} {s : Shared} {σ : St} {H : Hp} {R : It → Hp → Prop} {tg : Expr} {E : Value → Shared → Prop} {x : V} {v : Value} (I : Inv X pins σ H s) (r : RelV x v)
    (h : (∃ a, x = .ref a ∧ (∃ xs, SqL X.K H a xs) ∧ R (Itl X.K a) H) ∨ (∃ a, x = .ref a ∧ (∃ xs, SqT X.K H a xs) ∧ R (Itt X.K a) H) ∨ ∃ y, x = .str y ∧ R (Its y) H) : wpAny (model X.prog X.w) X.A (pyIter v) (PIE X pins σ tg R) E s := by
  rcases h with ⟨a, ex, ⟨xs, hq⟩, q⟩ | ⟨a, ex, ⟨xs, hq⟩, q⟩ | ⟨y, ex, q⟩
  · rw [ex] at r
    obtain rfl : v = Value.ref a := r
    obtain ⟨its, _, p, _⟩ := I.list hq
    exact wpAny_pyIter_list p.isList (pi_one (tk := s.toks) I _ (turn_list a _) ⟨_, Heap.get?_push_size _ rfl, rfl, rfl⟩ q)
  · rw [ex] at r
    obtain rfl : v = Value.ref a := r
    obtain ⟨its, _, p, _⟩ := I.tuple hq
    exact wpAny_pyIter_tuple (show s.heap.IsTuple a its.toArray from p) (pi_one (tk := s.toks) I _ (turn_tuple a _) ⟨_, Heap.get?_push_size _ rfl, rfl, rfl⟩ q)
  · rw [ex] at r
    obtain ⟨t, et⟩ := r
    rw [et]
    by_cases ha : y.cps.all (· < 128) = true
    · exact wpAny_pyIter_ascii ha (pi_one (tk := s.toks) I _ (turn_str _ y t _ (.inl rfl)) ⟨_, Heap.get?_push_size _ rfl, rfl, rfl⟩ q)
    · exact wpAny_pyIter_wide (Bool.eq_false_iff.mpr ha) (pi_one (tk := s.toks) I _ (turn_str _ y t _ (.inr rfl)) ⟨_, Heap.get?_push_size _ rfl, rfl, rfl⟩ q)
theorem RVs.none_of {K : PySem.W.Frag} {ρ : List Addr} {H : Hp} {ds : List D} {vs : List V} {i : Nat} (r : RVs K g ρ H ds vs) (h : ds[i]? = none) : vs.length ≤ i := by
  rw [r.len]; exact List.getElem?_eq_none_iff.mp h
theorem fi_seq {tg : Expr} (ha : FE X g W a ma) : FI X g W tg a (iSeq ma) := by
  refine ⟨fun pins s σ H R I h => ?_⟩
  refine thn (ha.run pins s σ H _ I (tI_of (f := seqI) (fun _ _ => rfl) h)) fun v s1 hx => ?_
  obtain ⟨x, H1, I1, rx, ρ, G, d, it, R1, r1, e, k⟩ := hx
  refine it_any I1 rx ?_
  unfold seqI at e
  split at e
  · cases e
    rw [RV] at r1
    obtain ⟨p, vs, q, sq, r⟩ := r1
    refine .inr (.inl ⟨p, q, ⟨_, sq⟩, k _ fun i ρ' G' H' x' R' => ?_⟩)
    have sq' := keepT x'.kt sq
    have r' := r.ext x'
    refine ⟨fun z => ⟨vs, sq', r'.none_of (Option.some.inj z)⟩, fun d z => ?_⟩
    obtain ⟨w, ew, rw'⟩ := r'.get (Option.some.inj z)
    refine ⟨⟨vs, w, sq', ew⟩, fun y H2 hy => ?_⟩
    obtain ⟨e1, e2⟩ := hy
    rw [e1]
    have := e2 vs sq'
    rw [ew] at this; cases this
    exact ⟨.refl _ _, R', rw'⟩
  · cases e
    rw [RV] at r1
    obtain ⟨p, vs, q, sq, r⟩ := r1
    refine .inl ⟨p, q, ⟨_, sq.seq⟩, k _ fun i ρ' G' H' x' R' => ?_⟩
    have sq' := (sq.keep x'.kt).seq
    have r' := r.ext x'
    refine ⟨fun z => ⟨vs, sq', r'.none_of (Option.some.inj z)⟩, fun d z => ?_⟩
    obtain ⟨w, ew, rw'⟩ := r'.get (Option.some.inj z)
    refine ⟨⟨vs, w, sq', ew⟩, fun y H2 hy => ?_⟩
    obtain ⟨e1, e2⟩ := hy
    rw [e1]
    have := e2 vs sq'
    rw [ew] at this; cases this
    exact ⟨.refl _ _, R', rw'⟩
  · rename_i y
    cases e
    refine .inr (.inr ⟨y, r1, k _ fun i ρ' G' H' x' R' => ⟨fun z => ?_, fun d z => ?_⟩⟩)
    · have z' : (y.cps[i]?.map fun c => (D.str ⟨#[c]⟩)) = none := Option.some.inj z
      rw [Option.map_eq_none_iff] at z'
      exact Array.getElem?_eq_none_iff.mp z'
    · have z' : (y.cps[i]?.map fun c => (D.str ⟨#[c]⟩)) = some d := Option.some.inj z
      obtain ⟨c, e1, e2⟩ := Option.map_eq_some_iff.mp z'
      subst e2
      refine ⟨(Array.getElem?_eq_some_iff.mp e1).1, fun y' H2 hy => ?_⟩
      obtain ⟨e3, c', e4, e5⟩ := hy
      rw [e1] at e4; cases e4
      rw [e3, e5]
      exact ⟨.refl _ _, R', rfl⟩
  · rename_i l
    split at e
    · rename_i xs ho
      cases e
      rw [RV] at r1
      obtain ⟨p, q, z⟩ := r1
      have o := R1.obj _ _ q
      rw [ho] at o
      obtain ⟨vs, hp, r⟩ := o
      refine .inl ⟨p, z, ⟨_, .of hp⟩, k _ fun i ρ' G' H' x' R' => ?_⟩
      have o' := R'.obj _ _ (x'.pre _ _ q)
      refine ⟨fun z => ?_, fun d z => ?_⟩
      · dsimp only at z
        split at z
        · rename_i xs' ho'
          rw [ho'] at o'
          obtain ⟨vs', hp', r'⟩ := o'
          exact ⟨vs', .of hp', r'.none_of (Option.some.inj z)⟩
        · cases z
      · dsimp only at z
        split at z
        · rename_i xs' ho'
          rw [ho'] at o'
          obtain ⟨vs', hp', r'⟩ := o'
          obtain ⟨w, ew, rw'⟩ := r'.get (Option.some.inj z)
          refine ⟨⟨vs', w, .of hp', ew⟩, fun y H2 hy => ?_⟩
          obtain ⟨e1, e2⟩ := hy
          rw [e1]
          have := e2 vs' (.of hp')
          rw [ew] at this; cases this
          exact ⟨.refl _ _, R', rw'⟩
        · cases z
    · cases e
  · cases e
/-- range(n), range(i, j) -/
@[irreducible] def rngI (i j : Int) : Option Im := if -(2 ^ 62) ≤ i ∧ i < 2 ^ 62 ∧ -(2 ^ 62) ≤ j ∧ j < 2 ^ 62 then some ⟨(j - i).toNat, fun k _ => some (if k < (j - i).toNat then some (.int (i + k)) else none)⟩ else none
def rng1 (ds : List D) : Option Im := match ds with
  | [.int j] => rngI 0 j
  | _ => none
def rng2 (ds : List D) : Option Im := match ds with
  | [.int i, .int j] => rngI i j
  | _ => none
def iRng1' (n : Ev → M (List D)) : Ev → M Im := fun env G => (n env G).bind fun ds G1 => match rng1 ds with
  | some it => .ok it G1
  | none => .no
def iRng2' (n : Ev → M (List D)) : Ev → M Im := fun env G => (n env G).bind fun ds G1 => match rng2 ds with
  | some it => .ok it G1
  | none => .no
theorem itr_ok {ρ : List Addr} {H : Hp} {i : Int} {n : Nat} : ItOk X.K g ρ H (Itr i n) ⟨n, fun k _ => some (if k < n then some (.int (i + k)) else none)⟩ := by
  intro k ρ' G' H' x' R'
  refine ⟨fun z => ?_, fun d z => ?_⟩
  · have z := Option.some.inj z
    split at z
    · cases z
    · show n ≤ k
      omega
  · have z := Option.some.inj z
    split at z
    · rename_i hk
      cases z
      refine ⟨hk, fun y H2 hy => ?_⟩
      obtain ⟨e1, e2⟩ := hy
      rw [e1, e2]
      exact ⟨.refl _ _, R', rfl⟩
    · cases z
theorem RVs.one {K : PySem.W.Frag} {ρ : List Addr} {H : Hp} {d : D} {vs : List V} (r : RVs K g ρ H [d] vs) : ∃ v, vs = [v] ∧ RV K g ρ H d v := by
  rw [RVs] at r
  obtain ⟨v, q, e, r1, r2⟩ := r
  rw [RVs] at r2
  subst r2
  exact ⟨v, e, r1⟩
theorem RVs.two {K : PySem.W.Frag} {ρ : List Addr} {H : Hp} {d e : D} {vs : List V} (r : RVs K g ρ H [d, e] vs) : ∃ v w, vs = [v, w] ∧ RV K g ρ H d v ∧ RV K g ρ H e w := by
  rw [RVs] at r
  obtain ⟨v, q, e, r1, r2⟩ := r
  obtain ⟨w, rfl, r3⟩ := r2.one
  exact ⟨v, w, e, r1, r3⟩
theorem fi_rng1 {tg : Expr} {ms : Ev → M (List D)} (hg : Gl X "range") (hm : X.mg "range" = none) (ha : FA X g W [a] ms) (hs : starEach [a] X.env = [(false, eval a X.env)] := by rfl) : FI X g W tg (.Call (.Name "range" p) [a] [] pos) (iRng1' ms) := by
  refine PI.imp (pi_range1 hg hm ha hs) ?_
  rintro σ H R ⟨ρ, env, G, R0, E, h⟩
  refine tA_run R0 E h.bind fun ds G1 ρ1 H1 x1 R1 h1 vs r1 => ?_
  cases z : rng1 ds with
  | none => rw [z] at h1; exact h1.elim
  | some it =>
    rw [z] at h1
    have k := h1.now R1
    unfold rng1 at z
    split at z
    · rename_i j
      obtain ⟨v, e1, r2⟩ := r1.one
      cases (show v = .int j from r2)
      unfold rngI at z
      split at z
      · rename_i hz
        cases z
        exact ⟨j, e1, hz.2.2.1, hz.2.2.2, k _ (by rw [Int.sub_zero]; exact itr_ok)⟩
      · cases z
    · cases z
theorem fi_rng2 {tg : Expr} {ms : Ev → M (List D)} (hg : Gl X "range") (hm : X.mg "range" = none) (ha : FA X g W [a, b] ms) (hs : starEach [a, b] X.env = [(false, eval a X.env), (false, eval b X.env)] := by rfl) (hs2 : starEach [b] X.env = [(false, eval b X.env)] := by rfl) :
    FI X g W tg (.Call (.Name "range" p) [a, b] [] pos) (iRng2' ms) := by
  refine PI.imp (pi_range2 hg hm ha hs hs2) ?_
  rintro σ H R ⟨ρ, env, G, R0, E, h⟩
  refine tA_run R0 E h.bind fun ds G1 ρ1 H1 x1 R1 h1 vs r1 => ?_
  cases z : rng2 ds with
  | none => rw [z] at h1; exact h1.elim
  | some it =>
    rw [z] at h1
    have k := h1.now R1
    unfold rng2 at z
    split at z
    · rename_i i j
      obtain ⟨v, w, e1, r2, r3⟩ := r1.two
      cases (show v = .int i from r2)
      cases (show w = .int j from r3)
      unfold rngI at z
      split at z
      · rename_i hz
        cases z
        exact ⟨i, j, e1, hz, k _ itr_ok⟩
      · cases z
    · cases z
/-- reversed(range(n)), reversed(range(i, j)) -/
def revI (i j : Int) : Option Im := if -(2 ^ 62) ≤ i ∧ i < 2 ^ 62 ∧ -(2 ^ 62) ≤ j ∧ j < 2 ^ 62 then some ⟨(j - i).toNat, fun k _ => some (if k < (j - i).toNat then some (.int (i + (((j - i).toNat : Nat) : Int) - 1 + (k : Nat) * (-1))) else none)⟩ else none
theorem itc_ok {ρ : List Addr} {H : Hp} {i c : Int} {n : Nat} : ItOk X.K g ρ H (Itc i c n) ⟨n, fun k _ => some (if k < n then some (.int (i + (k : Nat) * c)) else none)⟩ := by
  intro k ρ' G' H' x' R'
  refine ⟨fun z => ?_, fun d z => ?_⟩
  · have z := Option.some.inj z
    split at z
    · cases z
    · show n ≤ k
      omega
  · have z := Option.some.inj z
    split at z
    · rename_i hk
      cases z
      refine ⟨hk, fun y H2 hy => ?_⟩
      obtain ⟨e1, e2⟩ := hy
      rw [e1, e2]
      exact ⟨.refl _ _, R', rfl⟩
    · cases z
/-- enumerate(list) -/
def enumI (ds : List D) (G : Gh) : Option Im := match ds with
  | [.ref l] => (match G.ob l with
    | .lst xs => some ⟨xs.length, fun i G => match G.ob l with
      | .lst xs => some (xs[i]?.map fun d => .tup [.int i, d])
      | _ => none⟩
    | _ => none)
  | _ => none
def iEnum' (n : Ev → M (List D)) : Ev → M Im := fun env G => (n env G).bind fun ds G1 => match enumI ds G1 with
  | some it => .ok it G1
  | none => .no
theorem fi_enum {elts : List Expr} {kk : Nat} {ms : Ev → M (List D)} (hg : Gl X "enumerate") (hm : X.mg "enumerate" = none) (ha : FA X g W [a] ms) (hs : starEach [a] X.env = [(false, eval a X.env)] := by rfl) : FI X g W (.Tuple elts kk tpos) (.Call (.Name "enumerate" p) [a] [] pos) (iEnum' ms) := by
  refine PI.imp (pi_enum hg hm ha hs) ?_
  rintro σ H R ⟨ρ, env, G, R0, E, h⟩
  refine tA_run R0 E h.bind fun ds G1 ρ1 H1 x1 R1 h1 vs r1 => ?_
  cases z : enumI ds G1 with
  | none => rw [z] at h1; exact h1.elim
  | some it =>
    rw [z] at h1
    have k := h1.now R1
    unfold enumI at z
    split at z
    · rename_i l
      split at z
      · rename_i xs ho
        cases z
        obtain ⟨v, e1, r2⟩ := r1.one
        rw [RV] at r2
        obtain ⟨a', q, ev⟩ := r2
        subst ev
        have o := R1.obj _ _ q
        rw [ho] at o
        obtain ⟨ws, hp, r⟩ := o
        refine ⟨a', ws, e1, .of hp, k _ fun i ρ' G' H' x' R' => ?_⟩
        have o' := R'.obj _ _ (x'.pre _ _ q)
        refine ⟨fun z => ?_, fun d z => ?_⟩
        · dsimp only at z
          split at z
          · rename_i xs' ho'
            rw [ho'] at o'
            obtain ⟨vs', hp', r'⟩ := o'
            exact ⟨vs', .of hp', r'.none_of (Option.map_eq_none_iff.mp (Option.some.inj z))⟩
          · cases z
        · dsimp only at z
          split at z
          · rename_i xs' ho'
            rw [ho'] at o'
            obtain ⟨vs', hp', r'⟩ := o'
            obtain ⟨d', e3, e4⟩ := Option.map_eq_some_iff.mp (Option.some.inj z)
            obtain ⟨w, ew, rw'⟩ := r'.get e3
            refine ⟨⟨vs', w, .of hp', ew⟩, fun y H2 hy => ?_⟩
            obtain ⟨T, x2, e5, hT, e6, e7⟩ := hy
            have := e7 vs' (.of hp')
            rw [ew] at this; cases this
            obtain ⟨x3, R3, r3⟩ := tup_new R' (.cons (d := .int i) (v := .int i) rfl (.cons rw' .nil)) hT
            rw [e5, e6, ← e4]
            exact ⟨x3, R3, r3⟩
          · cases z
      · cases z
    · cases z

/-! ### for -/
def loopR (it : Im) (t : Tm) (mb : Sm) : Nat → Nat → Ev → Gh → Ro
  | 0, i, env, G => (match it.at_ i G with
    | some none => .nx env G
    | _ => .no)
  | n + 1, i, env, G => (match it.at_ i G with
    | some none => .nx env G
    | some (some d) => (match t d G env with
      | some env1 => (match mb env1 G with
        | .nx e2 G2 => loopR it t mb n (i + 1) e2 G2
        | .ct e2 G2 => loopR it t mb n (i + 1) e2 G2
        | .bk e2 G2 => .nx e2 G2
        | r => r)
      | none => .no)
    | none => .no)
def sFor (mi : Ev → M Im) (t : Tm) (mb : Sm) : Sm := fun env G => exS (mi env G) env fun it G1 => loopR it t mb it.n 0 env G1
/-- the loop's turns, by the iterator -/
theorem loop_run {it : Im} {t : Tm} {ws : List Nat} {mb : Sm} {J : It} {D : Ends} {ρ0 : List Addr} {H0 : Hp} {σ : St} {env : Ev} {G : Gh} (Io : ItOk X.K g ρ0 H0 J it) (R : Rep X.K g ρ0 G H0) (E : RE X.K g ρ0 H0 env σ) (h : Ps X.K g W ρ0 H0 D (loopR it t mb it.n 0 env G)) :
    ∃ I : Nat → Nat → St → Hp → Prop, (∃ m, I 0 m σ H0) ∧ ∀ i m σ H, I i m σ H →
      (J.stop i H ∧ D.nx σ H) ∨ (J.go i H ∧ ∃ N : St → Hp → Prop, (∀ σ' H', N σ' H' → ∃ m', m' < m ∧ I (i + 1) m' σ' H') ∧ ∀ x H', J.yld i H x H' → tG X.K g t ws x σ H' fun σ2 H2 => tS X.K g W mb { D with nx := N, ct := N, bk := D.nx } σ2 H2) := by
  refine ⟨fun i m σ H => ∃ ρ env G, Ext ρ0 H0 ρ H ∧ Rep X.K g ρ G H ∧ RE X.K g ρ H env σ ∧ Ps X.K g W ρ H D (loopR it t mb m i env G), ⟨it.n, ρ0, env, G, .refl _ _, R, E, h⟩, ?_⟩
  rintro i m σ H ⟨ρ, env, G, x, R, E, h⟩
  obtain ⟨o1, o2⟩ := Io i ρ G H x R
  have stop : it.at_ i G = some none → Ps X.K g W ρ H D (.nx env G) → J.stop i H ∧ D.nx σ H := fun e h => ⟨o1 e, h.now R E⟩
  cases m with
  | zero =>
    rw [loopR] at h
    split at h
    · rename_i e
      exact .inl (stop e h)
    · exact h.elim
  | succ m =>
    rw [loopR] at h
    split at h
    · rename_i e
      exact .inl (stop e h)
    · rename_i d e
      split at h
      · rename_i env1 e1
        obtain ⟨go, step⟩ := o2 d e
        refine .inr ⟨go, fun σ' H' => ∃ ρ' env' G', Ext ρ0 H0 ρ' H' ∧ Rep X.K g ρ' G' H' ∧ RE X.K g ρ' H' env' σ' ∧ Ps X.K g W ρ' H' D (loopR it t mb m (i + 1) env' G'), fun σ' H' z => ⟨m, Nat.lt_succ_self m, z⟩, fun y H' hy => ?_⟩
        obtain ⟨x1, R1, r1⟩ := step y H' hy
        refine ⟨ρ, env, G, d, env1, R1, E.ext x1, r1, e1, fun σ2 E2 _ => ⟨ρ, env1, G, R1, E2, ?_⟩⟩
        have xx := x.trans x1
        have h := h.start x1
        cases z : mb env1 G with
        | nx e2 G2 =>
          rw [z] at h
          exact fun ρ3 H3 σ3 x3 R3 E3 => ⟨ρ3, e2, G2, xx.trans x3, R3, E3, h.start x3⟩
        | ct e2 G2 =>
          rw [z] at h
          exact fun ρ3 H3 σ3 x3 R3 E3 => ⟨ρ3, e2, G2, xx.trans x3, R3, E3, h.start x3⟩
        | bk e2 G2 => rw [z] at h; exact h
        | rt d G2 => rw [z] at h; exact h
        | er c e2 G2 => rw [z] at h; exact h
        | no => rw [z] at h; exact h
      · exact h.elim
    · exact h.elim
theorem fs_for {tg iter : Expr} {mi : Ev → M Im} {t : Tm} {ws : List Nat} (hp : PassesOwn (model X.prog X.w) X.A X.env X.xe) (hc : X.calm = true) (hi : FI X g W tg iter mi) (hg : FG X g tg t ws) (hb : FSs X g W body m)
    (hs : ∀ x, foldedSetIterable iter X.env x = pure x := by intro _; rfl) : FS X g W (.For tg iter body [] pos) (sFor mi t m) := by
  refine PS.imp (ps_for hp hc hi hg hb hs) ?_
  rintro D σ H ⟨ρ, env, G, R, E, h⟩
  exact ⟨ρ, env, G, R, E, (h.ex E).imp fun it G1 ρ1 H1 x1 R1 h1 J hJ => loop_run hJ R1 (E.ext x1) h1⟩
/-- for k in d: the dict is locked meanwhile -/
def keyV : Key → D
  | .inl i => .int i
  | .inr x => .str x
def unlR (l : Nat) : Ro → Ro := fun r => match r with
  | .nx env G => (match G.ob l with
    | .lk kvs => .nx env (G.set l (.dct kvs))
    | _ => .no)
  | .bk env G => (match G.ob l with
    | .lk kvs => .bk env (G.set l (.dct kvs))
    | _ => .no)
  | .ct env G => (match G.ob l with
    | .lk kvs => .ct env (G.set l (.dct kvs))
    | _ => .no)
  | .rt d G => (match G.ob l with
    | .lk kvs => .rt d (G.set l (.dct kvs))
    | _ => .no)
  | r => r
def sForK (j : Nat) (t : Tm) (mb : Sm) : Sm := fun env G => match env[j]? with
  | some (some (.ref l)) => (match G.ob l with
    | .dct kvs => unlR l (loopR ⟨kvs.length, fun i _ => some (kvs[i]?.map fun p => keyV p.1)⟩ t mb kvs.length 0 env (G.set l (.lk kvs)))
    | _ => .no)
  | _ => .no
theorem RM.get {K : PySem.W.Frag} {ρ : List Addr} {H : Hp} {κ κ' : Type} {f : κ → κ'} : ∀ {l : List (κ × D)} {ws : List (κ' × V)} {i : Nat} {p : κ × D}, RM K g ρ H f l ws → l[i]? = some p → ∃ v, ws[i]? = some (f p.1, v) ∧ RV K g ρ H p.2 v
  | [], _, _, _, _, e => by simp at e
  | (k, d) :: r, _, 0, _, h, e => by
    rw [RM] at h
    obtain ⟨v, q, z, h1, h2⟩ := h
    subst z
    simp at e; subst e
    exact ⟨v, rfl, h1⟩
  | (k, d) :: r, _, i + 1, _, h, e => by
    rw [RM] at h
    obtain ⟨v, q, z, h1, h2⟩ := h
    subst z
    obtain ⟨w, e1, r1⟩ := RM.get (i := i) h2 (by simpa using e)
    exact ⟨w, by simpa using e1, r1⟩
/-- the lock put on, taken off -/
theorem Rep.lock {K : PySem.W.Frag} {ρ : List Addr} {G : Gh} {H : Hp} {l : Nat} {d : Addr} {kvs : List (Key × D)} (R : Rep K g ρ G H) (q : ρ[l]? = some d) (ho : G.ob l = .dct kvs) :
    ∃ ws, H d = some (.dK ws) ∧ RM K g ρ H id kvs ws ∧ ∀ od, Rep K g ρ (G.set l (.lk kvs)) (upd H d (.frz od (.dK ws))) ∧ Ext ρ H ρ (upd H d (.frz od (.dK ws))) := by
  have o := R.obj _ _ q
  rw [ho] at o
  obtain ⟨ws, hp, rm, nd⟩ := o
  exact ⟨ws, hp, rm, fun od => R.write q (by rw [ho]; rfl) fun x => ⟨od, ws, upd_same, rm.ext x, nd⟩⟩
theorem Rep.unlock {K : PySem.W.Frag} {ρ : List Addr} {G : Gh} {H : Hp} {l : Nat} {d : Addr} {od : Obj} {ws : List (Key × V)} {kvs : List (Key × D)} (R : Rep K g ρ G H) (q : ρ[l]? = some d) (hd : H d = some (.frz od (.dK ws))) (ho : G.ob l = .lk kvs) :
    Rep K g ρ (G.set l (.dct kvs)) (upd H d (.dK ws)) ∧ ∀ (ρ0 : List Addr) (H0 : Hp) u, H0 d = some u → ¬ Imm u → Ext ρ0 (upd H0 d (.frz od (.dK ws))) ρ H → Ext ρ0 H0 ρ (upd H d (.dK ws)) := by
  have o := R.obj _ _ q
  rw [ho] at o
  obtain ⟨od', ws', hp, rm, nd⟩ := o
  rw [hd] at hp
  cases hp
  have kt : KeepT H (upd H d (.dK ws)) := fun a u e i => by
    have n : a ≠ d := fun z => by subst z; rw [hd] at e; cases e; exact i.elim
    rw [upd_ne n]; exact e
  refine ⟨⟨R.len, R.nd, fun j b z => ?_⟩, fun ρ0 H0 u hu nu x => ⟨x.pre, fun a w e i => ?_⟩⟩
  · show RO K g _ _ (if j = l then .dct kvs else G.ob j) b
    by_cases hj : j = l
    · subst hj
      rw [q] at z; cases z
      rw [if_pos rfl]
      exact ⟨ws, upd_same, rm.extT (fun _ _ z => z) kt, nd⟩
    · rw [if_neg hj]
      refine (R.obj j b z).extT (fun _ _ z => z) kt (upd_ne fun z2 => ?_)
      subst z2
      have h1 := (List.getElem?_eq_some_iff.mp q)
      have h2 := (List.getElem?_eq_some_iff.mp z)
      exact hj ((List.getElem_inj R.nd).mp (h2.2.trans h1.2.symm))
  · have n : a ≠ d := fun z => by subst z; rw [hu] at e; cases e; exact nu i
    rw [upd_ne n]
    exact x.keep a w (by rw [upd_ne n]; exact e) i
theorem fs_forK {tg : Expr} {x : Str} {t : Tm} {ws : List Nat} {j : Nat} (hp : PassesOwn (model X.prog X.w) X.A X.env X.xe) (hc : X.calm = true) (hN : X.N[j]? = some x) (hv : Vis X.env.scope x) (hg : FG X g tg t ws) (hb : FSs X g W body m) (hd : (x == ("__debug__" : Str)) = false := by decide) (hcd : (x == ("__classdict__" : Str)) = false := by decide)
    (hs : ∀ y, foldedSetIterable (.Name x p) X.env y = pure y := by intro _; rfl) : FS X g W (.For tg (.Name x p) body [] pos) (sForK j t m) := by
  refine PS.imp (ps_lock (ps_for hp hc (pi_keys (pe_var hN hv hd hcd)) hg hb hs)) ?_
  rintro D σ H ⟨ρ, env, G, R, E, h⟩
  unfold sForK at h
  split at h
  · rename_i l e1
    split at h
    · rename_i kvs ho
      obtain ⟨v, e2, rv⟩ := E.get e1
      rw [RV] at rv
      obtain ⟨d, q, ev⟩ := rv
      subst ev
      obtain ⟨wss, hd1, rm, lock⟩ := R.lock q ho
      refine ⟨d, _, hd1, trivial, fun od => ?_⟩
      obtain ⟨R1, x1⟩ := lock od
      refine ⟨_, e2, d, od, rfl, .inl ⟨wss, upd_same, ?_⟩⟩
      have fz : ∀ {ρ' : List Addr} {H' : Hp}, Ext ρ (upd H d (.frz od (.dK wss))) ρ' H' → H' d = some (.frz od (.dK wss)) := fun x => x.keep _ _ upd_same trivial
      have io : ItOk X.K g ρ (upd H d (.frz od (.dK wss))) (Itk d od wss) ⟨kvs.length, fun i _ => some (kvs[i]?.map fun p => keyV p.1)⟩ := by
        intro i ρ' G' H' x' R'
        have hd' := fz x'
        refine ⟨fun z => ⟨hd', ?_⟩, fun y z => ?_⟩
        · have z := Option.map_eq_none_iff.mp (Option.some.inj z)
          have l1 := List.getElem?_eq_none_iff.mp z
          have l2 := rm.len
          omega
        · obtain ⟨⟨kk, dd⟩, e3, e4⟩ := Option.map_eq_some_iff.mp (Option.some.inj z)
          obtain ⟨w, e5, _⟩ := RM.get rm e3
          refine ⟨⟨hd', (List.getElem?_eq_some_iff.mp e5).1⟩, fun y2 H2 hy => ?_⟩
          obtain ⟨e6, k', v', e7, e8⟩ := hy
          rw [e5] at e7; cases e7
          rw [e6, e8, ← e4]
          refine ⟨.refl _ _, R', ?_⟩
          cases kk <;> rfl
      refine loop_run io R1 (E.ext x1) ?_
      have un : ∀ {ρ' : List Addr} {H' : Hp} {G2 : Gh} {kvs' : List (Key × Mi.D)}, Ext ρ (upd H d (.frz od (.dK wss))) ρ' H' → Rep X.K g ρ' G2 H' → G2.ob l = .lk kvs' → Rep X.K g ρ' (G2.set l (.dct kvs')) (upd H' d (.dK wss)) ∧ Ext ρ H ρ' (upd H' d (.dK wss)) ∧ KeepT H' (upd H' d (.dK wss)) := fun {ρ' H' G2 kvs'} x2 R2 h2 => by
        obtain ⟨a1, a2⟩ := R2.unlock (x2.pre _ _ q) (fz x2) h2
        refine ⟨a1, a2 ρ H _ hd1 (fun z => z) x2, fun a u e i => ?_⟩
        have n : a ≠ d := fun z => by subst z; rw [fz x2] at e; cases e; exact i.elim
        rw [upd_ne n]; exact e
      revert h
      generalize loopR ⟨kvs.length, fun i _ => some (kvs[i]?.map fun p => keyV p.1)⟩ t m kvs.length 0 env (G.set l (.lk kvs)) = r
      intro h
      cases r with
      | nx env2 G2 =>
        unfold unlR at h
        dsimp only at h
        split at h
        · rename_i kvs' h2
          intro ρ' H' σ' x2 R2 E2
          obtain ⟨a1, a2, a3⟩ := un x2 R2 h2
          exact ⟨fz x2, h ρ' _ σ' a2 a1 (E2.extT (fun _ _ z => z) a3)⟩
        · exact h.elim
      | bk env2 G2 =>
        unfold unlR at h
        dsimp only at h
        split at h
        · rename_i kvs' h2
          intro ρ' H' σ' x2 R2 E2
          obtain ⟨a1, a2, a3⟩ := un x2 R2 h2
          exact ⟨fz x2, h ρ' _ σ' a2 a1 (E2.extT (fun _ _ z => z) a3)⟩
        · exact h.elim
      | ct env2 G2 =>
        unfold unlR at h
        dsimp only at h
        split at h
        · rename_i kvs' h2
          intro ρ' H' σ' x2 R2 E2
          obtain ⟨a1, a2, a3⟩ := un x2 R2 h2
          exact ⟨fz x2, h ρ' _ σ' a2 a1 (E2.extT (fun _ _ z => z) a3)⟩
        · exact h.elim
      | rt d2 G2 =>
        unfold unlR at h
        dsimp only at h
        split at h
        · rename_i kvs' h2
          intro ρ' H' v x2 R2 r2
          obtain ⟨a1, a2, a3⟩ := un x2 R2 h2
          exact ⟨fz x2, h ρ' _ v a2 a1 (r2.extT (fun _ _ z => z) a3)⟩
        · exact h.elim
      | er c env2 G2 => exact fun ρ' H' σ' x2 R2 E2 => h ρ' H' σ' (x1.trans x2) R2 E2
      | no => exact h.elim
    · exact h.elim
  · exact h.elim

/-! ### while -/
def loopW (nt : Ev → M Bool) (mb : Sm) : Nat → Ev → Gh → Ro
  | 0, _, _ => .no
  | n + 1, env, G => exS (nt env G) env fun b G1 => if b = true then (match mb env G1 with
    | .nx e2 G2 => loopW nt mb n e2 G2
    | .ct e2 G2 => loopW nt mb n e2 G2
    | .bk e2 G2 => .nx e2 G2
    | r => r) else .nx env G1
def sWhile (k : Nat) (nt : Ev → M Bool) (mb : Sm) : Sm := fun env G => loopW nt mb k env G
theorem fs_while {c : Expr} {nt : Ev → M Bool} (k : Nat) (hp : PassesOwn (model X.prog X.w) X.A X.env X.xe) (hc : FT X g W c nt) (hb : FSs X g W body m) : FS X g W (.While c body [] pos) (sWhile k nt m) := by
  refine PS.imp (ps_while hp hc hb) ?_
  rintro D σ H ⟨ρ, env, G, R, E, h⟩
  refine ⟨fun n σ H => ∃ ρ env G, Rep X.K g ρ G H ∧ RE X.K g ρ H env σ ∧ Ps X.K g W ρ H D (loopW nt m n env G), ⟨k, ρ, env, G, R, E, h⟩, ?_⟩
  rintro n σ H ⟨ρ, env, G, R, E, h⟩
  cases n with
  | zero => exact h.elim
  | succ n =>
    rw [loopW] at h
    refine tT_run R E (h.ex E) fun b G1 ρ1 H1 x1 R1 h1 => ?_
    cases b with
    | true =>
      rw [if_pos rfl] at h1 ⊢
      refine ⟨fun σ' H' => ∃ ρ' env' G', Rep X.K g ρ' G' H' ∧ RE X.K g ρ' H' env' σ' ∧ Ps X.K g W ρ' H' D (loopW nt m n env' G'), fun σ' H' z => ⟨n, Nat.lt_succ_self n, z⟩, ρ1, env, G1, R1, E.ext x1, ?_⟩
      cases z : m env G1 with
      | nx e2 G2 =>
        rw [z] at h1
        exact fun ρ3 H3 σ3 x3 R3 E3 => ⟨ρ3, e2, G2, R3, E3, h1.start x3⟩
      | ct e2 G2 =>
        rw [z] at h1
        exact fun ρ3 H3 σ3 x3 R3 E3 => ⟨ρ3, e2, G2, R3, E3, h1.start x3⟩
      | bk e2 G2 => rw [z] at h1; exact h1
      | rt d G2 => rw [z] at h1; exact h1
      | er c e2 G2 => rw [z] at h1; exact h1
      | no => rw [z] at h1; exact h1
    | false =>
      rw [if_neg Bool.false_ne_true] at h1 ⊢
      exact h1.now R1 (E.ext x1)

/-! ### comprehensions -/
def wipeE (env : Ev) : List Nat → Ev
  | [] => env
  | v :: vs => (wipeE env vs).set v none
theorem RE.wipe {K : PySem.W.Frag} {ρ : List Addr} {H : Hp} {env : Ev} {σ : St} (h : RE K g ρ H env σ) : ∀ vs, RE K g ρ H (wipeE env vs) (L2.wipe σ vs)
  | [] => h
  | v :: vs => RE.unset v none (RE.wipe h vs)
theorem wipe_get (σ : St) : ∀ (vs : List Nat) (j : Nat), (L2.wipe σ vs)[j]? = if j ∈ vs then σ[j]?.map fun _ => none else σ[j]?
  | [], j => by rw [if_neg (by simp)]; rfl
  | v :: vs, j => by
    show ((L2.wipe σ vs).set v none)[j]? = _
    by_cases hv : v = j
    · subst hv
      rw [if_pos List.mem_cons_self]
      by_cases hl : v < (L2.wipe σ vs).length
      · rw [List.getElem?_set_self hl]
        rw [wipe_length] at hl
        rw [List.getElem?_eq_getElem hl]
        rfl
      · rw [List.getElem?_eq_none (by rw [List.length_set]; exact Nat.le_of_not_lt hl)]
        rw [wipe_length] at hl
        rw [List.getElem?_eq_none (Nat.le_of_not_lt hl)]
        rfl
    · rw [List.getElem?_set_ne hv, wipe_get σ vs j]
      by_cases hj : j ∈ vs
      · rw [if_pos hj, if_pos (List.mem_cons_of_mem _ hj)]
      · rw [if_neg hj, if_neg (fun z => (List.mem_cons.mp z).elim (fun e => hv e.symm) hj)]
theorem But.wipe {σ σ2 : St} {vs : List Nat} (b : But vs (L2.wipe σ vs) σ2) : L2.wipe σ2 vs = L2.wipe σ vs := by
  apply List.ext_getElem?
  intro j
  rw [wipe_get σ2, wipe_get σ]
  by_cases hj : j ∈ vs
  · rw [if_pos hj, if_pos hj]
    have l : σ2.length = σ.length := b.len.trans (wipe_length σ vs)
    by_cases hl : j < σ.length
    · rw [List.getElem?_eq_getElem hl, List.getElem?_eq_getElem (by rw [l]; exact hl)]
      rfl
    · rw [List.getElem?_eq_none (Nat.le_of_not_lt hl), List.getElem?_eq_none (by rw [l]; exact Nat.le_of_not_lt hl)]
  · rw [if_neg hj, if_neg hj, b.out j hj, wipe_get, if_neg hj]
def loopC (it : Im) (t : Tm) (nt : Ev → M Bool) (me : Ev → M D) (l : Nat) (env0 : Ev) : Nat → Nat → Gh → Rs D
  | 0, i, G => (match it.at_ i G with
    | some none => .ok (.ref l) G
    | _ => .no)
  | n + 1, i, G => (match it.at_ i G with
    | some none => .ok (.ref l) G
    | some (some d) => (match t d G env0 with
      | some env1 => (match nt env1 G with
        | .ok true G2 => (match me env1 G2 with
          | .ok y G3 => (match G3.ob l with
            | .lst acc => if acc.length < sizeLine then loopC it t nt me l env0 n (i + 1) (G3.set l (.lst (acc ++ [y]))) else .no
            | _ => .no)
          | _ => .no)
        | .ok false G2 => loopC it t nt me l env0 n (i + 1) G2
        | _ => .no)
      | none => .no)
    | none => .no)
def eLc (mi : Ev → M Im) (t : Tm) (nt : Ev → M Bool) (me : Ev → M D) (vs : List Nat) : Ev → M D := fun env G => (mi env G).bind fun it G1 => loopC it t nt me G1.n (wipeE env vs) it.n 0 (G1.push (.lst []))
def bYes : Ev → M Bool := fun _ G => .ok true G
abbrev WF : WX := fun _ _ _ _ => False
theorem lc_run {mi : Ev → M Im} {t : Tm} {nt : Ev → M Bool} {me : Ev → M D} {vs : List Nat} {σ : St} {H : Hp} {Q : VK} (h : tE X.K g W (eLc mi t nt me vs) σ H Q) :
    tLc (tI X.K g W mi) (tG X.K g t vs) (tT X.K g WF nt) (tE X.K g WF me) vs σ H Q := by
  obtain ⟨ρ, env, G, R, E, h⟩ := h
  refine ⟨ρ, env, G, R, E, h.bind.imp fun it G1 ρ1 H1 x1 R1 h1 J hJ A0 hA => ?_⟩
  obtain ⟨x2, R2, r2⟩ := lst_new R1 (ds := []) (vs := []) .nil hA
  rw [RV] at r2
  obtain ⟨p, q2, ep⟩ := r2
  cases ep
  refine ⟨fun i m H => ∃ ρ G, Ext (ρ1 ++ [A0]) (upd H1 A0 (.lst [])) ρ H ∧ Rep X.K g ρ G H ∧ Po X.K g W σ ρ H (loopC it t nt me G1.n (wipeE env vs) m i G) fun d _ ρ' H' => ∀ v, RV X.K g ρ' H' d v → Q v H', ⟨it.n, _, _, .refl _ _, R2, h1.start x2⟩, ?_⟩
  rintro i m H ⟨ρ, G, x, R, h⟩
  have xx := (x1.trans x2).trans x
  have qD : ρ[G1.n]? = some A0 := x.pre _ _ q2
  obtain ⟨o1, o2⟩ := hJ i ρ G H (x2.trans x) R
  have stop : it.at_ i G = some none → (Po X.K g W σ ρ H (Rs.ok (D.ref G1.n) G : Rs D) fun d _ ρ' H' => ∀ v, RV X.K g ρ' H' d v → Q v H') → J.stop i H ∧ Q (.ref A0) H := fun e h => ⟨o1 e, h.now R _ (by rw [RV]; exact ⟨A0, qD, rfl⟩)⟩
  cases m with
  | zero =>
    rw [loopC] at h
    split at h
    · rename_i e
      exact .inl (stop e h)
    · exact h.elim
  | succ m =>
    rw [loopC] at h
    split at h
    · rename_i e
      exact .inl (stop e h)
    · rename_i d e
      split at h
      · rename_i env1 e1
        obtain ⟨go, step⟩ := o2 d e
        refine .inr ⟨go, fun H' => ∃ ρ' G', Ext (ρ1 ++ [A0]) (upd H1 A0 (.lst [])) ρ' H' ∧ Rep X.K g ρ' G' H' ∧ Po X.K g W σ ρ' H' (loopC it t nt me G1.n (wipeE env vs) m (i + 1) G') fun d _ ρ' H' => ∀ v, RV X.K g ρ' H' d v → Q v H', fun H' z => ⟨m, Nat.lt_succ_self m, z⟩, fun y H' hy => ?_⟩
        obtain ⟨x3, R3, r3⟩ := step y H' hy
        have x3' := x.trans x3
        refine ⟨ρ, _, G, d, env1, R3, (E.ext (xx.trans x3)).wipe vs, r3, e1, fun σ2 E2 b2 => ⟨b2.wipe, ρ, env1, G, R3, E2, ?_⟩⟩
        have h := h.start x3
        cases z : nt env1 G with
        | no => rw [z] at h; exact h.elim
        | er c G2 => rw [z] at h; exact h.elim
        | ok b G2 =>
          rw [z] at h
          intro ρ4 H4 x4 R4
          have h := h.start x4
          cases b with
          | false =>
            show if false = true then _ else _
            rw [if_neg Bool.false_ne_true]
            exact ⟨ρ4, G2, x3'.trans x4, R4, h⟩
          | true =>
            show if true = true then _ else _
            rw [if_pos rfl]
            refine ⟨ρ4, env1, G2, R4, E2.ext x4, ?_⟩
            dsimp only at h
            cases z5 : me env1 G2 with
            | no => rw [z5] at h; exact h.elim
            | er c G3 => rw [z5] at h; exact h.elim
            | ok y5 G3 =>
              rw [z5] at h
              intro ρ5 H5 x5 R5 v5 r5
              have h := h.start x5
              dsimp only at h
              split at h
              · rename_i acc ha
                split at h
                · rename_i hz
                  have x35 := (x3'.trans x4).trans x5
                  have qD5 : ρ5[G1.n]? = some A0 := x35.pre _ _ q2
                  have o := R5.obj _ _ qD5
                  rw [ha] at o
                  obtain ⟨avs, hp, ra⟩ := o
                  obtain ⟨R6, x6⟩ := R5.write (o := .lst (avs ++ [v5])) (ob := .lst (acc ++ [y5])) qD5 (by rw [ha]; rfl) fun x => ⟨_, upd_same, (ra.app (.cons r5 .nil)).ext x⟩
                  exact ⟨avs, hp, by rw [ra.len]; exact hz, ρ5, _, x35.trans x6, R6, h.start x6⟩
                · exact h.elim
              · exact h.elim
      · exact h.elim
    · exact h.elim
/-- a clause's tests -/
abbrev FTs (X : Cx) (g : Tg) (ifs : List Expr) (nt : Ev → M Bool) : Prop := PTs X ifs (tT X.K g WF nt)
theorem PTs.imp {ifs : List Expr} {t t' : TT} (h : PTs X ifs t) (k : ∀ σ H Q, t' σ H Q → t σ H Q) : PTs X ifs t' := ⟨fun pins s σ H Q I q => h.run pins s σ H Q I (k σ H Q q)⟩
theorem fts_nil : FTs X g [] bYes := PTs.imp pts_nil fun σ H Q ⟨ρ, env, G, R, E, h⟩ => h.now R
theorem fts_one {c : Expr} {nt : Ev → M Bool} (h : FT X g WF c nt) : FTs X g [c] nt := pts_one h
theorem fe_lc {elt tg iter : Expr} {ifs : List Expr} {scope : Scope} {own : List (Str × Nat)} {mi : Ev → M Im} {t : Tm} {nt : Ev → M Bool} {me : Ev → M D} (hc : X.calm = true) (hN : X.N.Nodup) (ok : BlkOk X.N X.env.scope scope own) (hi : FI X g W tg iter mi)
    (hg : ∀ (s : Shared) (H : Hp) (C : Addr) (cl : List (Str × Addr)) (fp : List Addr), FG (X.blk s H scope (compEnvC scope cl C X.env) fp) g tg t (own.map (·.2)))
    (ht : ∀ (s : Shared) (H : Hp) (C : Addr) (cl : List (Str × Addr)) (fp : List Addr), FTs (X.blk s H scope (compEnvC scope cl C X.env) fp) g ifs nt)
    (he : ∀ (s : Shared) (H : Hp) (C : Addr) (cl : List (Str × Addr)) (fp : List Addr), FE (X.blk s H scope (compEnvC scope cl C X.env) fp) g WF elt me) (hs : ∀ x, foldedSetIterable iter X.env x = pure x := by intro _; rfl) :
    FE X g W (.ListComp elt [⟨tg, iter, ifs, 0⟩] scope pos) (eLc mi t nt me (own.map (·.2))) := PE.imp (pe_lc (g := tG X.K g t (own.map (·.2))) (tt := tT X.K g WF nt) (te := tE X.K g WF me) hc hN hi ok hg ht he hs) fun _ _ _ h => lc_run h
theorem fs_setLc {i : Nat} {y : Str} {py : Pos} {elt tg iter : Expr} {ifs : List Expr} {scope : Scope} {own : List (Str × Nat)} {mi : Ev → M Im} {t : Tm} {nt : Ev → M Bool} {me : Ev → M D} (hc : X.calm = true) (hN : X.N.Nodup) (hy : X.N[i]? = some y) (hyl : X.env.scope.names.lookup y = some .local)
    (hsw : swapsWith (.ListComp elt [⟨tg, iter, ifs, 0⟩] scope pos) (some (.Name y py)) pos'.line X.env = pure true) (ok : BlkOk X.N X.env.scope scope own) (hi : FI X g W tg iter mi)
    (hg : ∀ (s : Shared) (H : Hp) (C : Addr) (cl : List (Str × Addr)) (fp : List Addr), FG (X.blk s H scope (compEnvC scope cl C X.env) fp) g tg t (own.map (·.2)))
    (ht : ∀ (s : Shared) (H : Hp) (C : Addr) (cl : List (Str × Addr)) (fp : List Addr), FTs (X.blk s H scope (compEnvC scope cl C X.env) fp) g ifs nt)
    (he : ∀ (s : Shared) (H : Hp) (C : Addr) (cl : List (Str × Addr)) (fp : List Addr), FE (X.blk s H scope (compEnvC scope cl C X.env) fp) g WF elt me) (hs : ∀ x, foldedSetIterable iter X.env x = pure x := by intro _; rfl) :
    FS X g W (.Assign [.Name y py] (.ListComp elt [⟨tg, iter, ifs, 0⟩] scope pos) pos') (sAsg (gmN i) (eLc mi t nt me (own.map (·.2)))) := by
  refine PS.imp (ps_setLc (g := tG X.K g t (own.map (·.2))) (tt := tT X.K g WF nt) (te := tE X.K g WF me) hc hN hy hyl hsw hi ok hg ht he hs) ?_
  rintro D σ H ⟨ρ, env, G, R, E, h⟩
  exact lc_run ⟨ρ, env, G, R, E, (h.ex E).imp fun d G1 ρ1 H1 x1 R1 h1 v r => h1.now R1 (RE.set r i (E.ext x1))⟩
end
end Mi
/-! F, part 7: built-ins. -/
namespace Mi
open PySem PySem.Spec PyProof.Rows L2

/-- a call by values -/
abbrev O1 := List D → Gh → Option (D × Gh)
def rC (K : PySem.W.Frag) (g : Tg) (f : O1) : List V → Hp → VK → Prop := fun vs H Q => ∃ ρ G ds, Rep K g ρ G H ∧ RVs K g ρ H ds vs ∧ ∃ d G', f ds G = some (d, G') ∧ ∀ v ρ' H', Ext ρ H ρ' H' → Rep K g ρ' G' H' → RV K g ρ' H' d v → Q v H'
def eB (f : O1) (n : Ev → M (List D)) : Ev → M D := fun env G => (n env G).bind fun ds G1 => lift (f ds G1)
abbrev CalF (X : Cx) (g : Tg) (u : Value) (f : O1) : Prop := CallR X u (rC X.K g f)
theorem CallR.imp {X : Cx} {f : Value} {r r' : List V → Hp → VK → Prop} (h : CallR X f r) (k : ∀ x H Q, r' x H Q → r x H Q) : CallR X f r' := fun pins s σ H xs us Q I rx q => h pins s σ H xs us Q I rx (k xs H Q q)
theorem CallR.or {X : Cx} {f : Value} {r r' : List V → Hp → VK → Prop} (h : CallR X f r) (h' : CallR X f r') : CallR X f fun x H Q => r x H Q ∨ r' x H Q := fun pins s σ H xs us Q I rx q => q.elim (h pins s σ H xs us Q I rx) (h' pins s σ H xs us Q I rx)
section
variable {X : Cx} {g : Tg} {W : WX} {pos tpos p p2 apos cpos : Pos} {a b e o : Expr} {es : List Expr} {ma mb mo : Ev → M D} {ms : Ev → M (List D)} {x : Str} {idn T : String} {f : O1}
theorem blt_run {σ : St} {H : Hp} {Q : VK} (h : tE X.K g W (eB f ms) σ H Q) : tCB (rC X.K g f) (tA X.K g W ms) σ H Q := by
  obtain ⟨ρ, env, G, R, E, h⟩ := h
  refine tA_run R E h.bind fun ds G1 ρ1 H1 x1 R1 h1 vs r1 => ?_
  obtain ⟨d, G', e, k⟩ := h1.lift
  exact ⟨ρ1, G1, ds, R1, r1, d, G', e, fun v ρ' H' x' R' r' => k ρ' H' x' R' v r'⟩
theorem fe_blt (hc : CalF X g (.builtin idn) f) (hg : Gl X x) (hm : X.mg x = none) (hv : bootBuiltins x = some (.builtin idn)) (ha : FA X g W (e :: es) ms) (hn : x ≠ "__name__" := by decide) (hd : (x == ("__debug__" : Str)) = false := by decide)
    (q1 : starEach (e :: es) X.env = (false, eval e X.env) :: starEach es X.env := by rfl) (q2 : (backTo pos (starEach es X.env)).any (·.1) = false := by rfl) : FE X g W (.Call (.Name x p) (e :: es) [] pos) (eB f ms) :=
  PE.imp (pe_callB hc hg hm hv ha hn hd q1 q2) fun _ _ _ h => blt_run h
theorem fe_bty (hc : CalF X g (.type T) f) (hg : Gl X x) (hm : X.mg x = none) (hv : bootBuiltins x = some (.type T)) (ha : FA X g W (e :: es) ms) (hn : x ≠ "__name__" := by decide) (hd : (x == ("__debug__" : Str)) = false := by decide)
    (q1 : starEach (e :: es) X.env = (false, eval e X.env) :: starEach es X.env := by rfl) (q2 : (backTo pos (starEach es X.env)).any (·.1) = false := by rfl) : FE X g W (.Call (.Name x p) (e :: es) [] pos) (eB f ms) :=
  PE.imp (pe_callTy hc hg hm hv ha hn hd q1 q2) fun _ _ _ h => blt_run h

/-! ### len -/
def lenD (d : D) (G : Gh) : Option Nat := match d with
  | .str y => if y.length ≤ sizeLine then some y.length else none
  | .tup xs => some xs.length
  | .rol xs => some xs.length
  | .ref l => (match G.ob l with
    | .lst xs => some xs.length
    | .dct kvs => some kvs.length
    | _ => none)
  | _ => none
def bLen : O1 := fun ds G => match ds with
  | [d] => (lenD d G).map fun n => (.int (n : Int), G)
  | _ => none
theorem cf_len : CalF X g (.builtin "len") bLen := by
  refine CallR.imp (CallR.or call_len call_lenD) ?_
  rintro vs H Q ⟨ρ, G, ds, R, r, d', G', e, k⟩
  unfold bLen at e
  split at e
  · rename_i d
    obtain ⟨n, e1, e2⟩ := Option.map_eq_some_iff.mp e
    cases e2
    obtain ⟨v, rfl, rv⟩ := r.one
    have k := k _ ρ H (.refl _ _) R rfl
    unfold lenD at e1
    split at e1
    · cases (show v = .str _ from rv)
      split at e1
      · cases e1
        exact .inl ⟨_, _, rfl, ⟨by assumption, rfl⟩, k⟩
      · cases e1
    · cases e1
      rw [RV] at rv
      obtain ⟨a, vs, e, s, q⟩ := rv
      subst e
      exact .inl ⟨_, _, rfl, .inr ⟨vs, s, q.len.symm⟩, k⟩
    · cases e1
      rw [RV] at rv
      obtain ⟨a, vs, e, s, q⟩ := rv
      subst e
      exact .inl ⟨_, _, rfl, .inl ⟨vs, s.seq, q.len.symm⟩, k⟩
    · rw [RV] at rv
      obtain ⟨a, e, q⟩ := rv
      subst q
      have o := R.obj _ _ e
      split at e1
      · rename_i xs z
        cases e1
        rw [z] at o
        obtain ⟨vs, hp, q⟩ := o
        exact .inl ⟨_, _, rfl, .inl ⟨vs, .of hp, q.len.symm⟩, k⟩
      · rename_i kvs z
        cases e1
        rw [z] at o
        obtain ⟨ws, hp, q, _⟩ := o
        exact .inr ⟨_, ws, rfl, hp, by rw [q.len]; exact k⟩
      · cases e1
    · cases e1
  · cases e
/-! ### int, str, min, max -/
def bInt : O1 := fun ds G => match ds with
  | [.int i] => some (.int i, G)
  | [.bl b] => some (.int (if b then 1 else 0), G)
  | [.str a] => if a.length ≤ 640 then (PySem.intText? a).map fun n => (.int n, G) else none
  | _ => none
theorem cf_int : CalF X g (.type "int") bInt := by
  refine CallR.imp (CallR.or call_int1 call_int_str) ?_
  rintro vs H Q ⟨ρ, G, ds, R, r, d', G', e, k⟩
  unfold bInt at e
  split at e
  · cases e
    obtain ⟨v, rfl, rv⟩ := r.one
    cases (show v = .int _ from rv)
    exact .inl (.inl ⟨_, rfl, k _ ρ H (.refl _ _) R rfl⟩)
  · cases e
    obtain ⟨v, rfl, rv⟩ := r.one
    cases (show v = .bl _ from rv)
    exact .inl (.inr ⟨_, rfl, k _ ρ H (.refl _ _) R rfl⟩)
  · split at e
    · obtain ⟨n, e1, e2⟩ := Option.map_eq_some_iff.mp e
      cases e2
      obtain ⟨v, rfl, rv⟩ := r.one
      cases (show v = .str _ from rv)
      exact .inr ⟨_, _, rfl, e1, by assumption, k _ ρ H (.refl _ _) R rfl⟩
    · cases e
  · cases e
def bStr : O1 := fun ds G => match ds with
  | [.int i] => if i.natAbs.log2 < 1920 then some (.str (toString i), G) else none
  | [.str a] => some (.str a, G)
  | _ => none
theorem cf_str : CalF X g (.type "str") bStr := by
  refine CallR.imp (CallR.or call_str_int SkE.call_str_str) ?_
  rintro vs H Q ⟨ρ, G, ds, R, r, d', G', e, k⟩
  unfold bStr at e
  split at e
  · split at e
    · cases e
      obtain ⟨v, rfl, rv⟩ := r.one
      cases (show v = .int _ from rv)
      exact .inl ⟨_, rfl, by assumption, k _ ρ H (.refl _ _) R rfl⟩
    · cases e
  · cases e
    obtain ⟨v, rfl, rv⟩ := r.one
    cases (show v = .str _ from rv)
    exact .inr ⟨_, rfl, k _ ρ H (.refl _ _) R rfl⟩
  · cases e
def bMin : O1 := fun ds G => match ds with
  | [.int i, .int j] => some (.int (if j < i then j else i), G)
  | _ => none
def bMax : O1 := fun ds G => match ds with
  | [.int i, .int j] => some (.int (if j > i then j else i), G)
  | _ => none
theorem cf_min (hc : X.calm = true) : CalF X g (.builtin "min") bMin := by
  refine CallR.imp (call_min2 hc) ?_
  rintro vs H Q ⟨ρ, G, ds, R, r, d', G', e, k⟩
  unfold bMin at e
  split at e
  · cases e
    obtain ⟨v, w, rfl, rv, rw'⟩ := r.two
    cases (show v = .int _ from rv)
    cases (show w = .int _ from rw')
    exact ⟨_, _, rfl, k _ ρ H (.refl _ _) R rfl⟩
  · cases e
theorem cf_max (hc : X.calm = true) : CalF X g (.builtin "max") bMax := by
  refine CallR.imp (call_max2 hc) ?_
  rintro vs H Q ⟨ρ, G, ds, R, r, d', G', e, k⟩
  unfold bMax at e
  split at e
  · cases e
    obtain ⟨v, w, rfl, rv, rw'⟩ := r.two
    cases (show v = .int _ from rv)
    cases (show w = .int _ from rw')
    exact ⟨_, _, rfl, k _ ρ H (.refl _ _) R rfl⟩
  · cases e
/-! ### list, tuple -/
/-- the items of a sequence -/
def itemsD (d : D) (G : Gh) : Option (List D) := match d with
  | .tup xs => some xs
  | .rol xs => some xs
  | .ref l => (match G.ob l with
    | .lst xs => some xs
    | _ => none)
  | _ => none
theorem items_of {K : PySem.W.Frag} {ρ : List Addr} {G : Gh} {H : Hp} {d : D} {v : V} {xs : List D} (R : Rep K g ρ G H) (r : RV K g ρ H d v) (e : itemsD d G = some xs) : ∃ a vs, v = .ref a ∧ RVs K g ρ H xs vs ∧ (SqL K H a vs ∨ SqT K H a vs) := by
  unfold itemsD at e
  split at e
  · cases e
    rw [RV] at r
    obtain ⟨a, vs, e, s, q⟩ := r
    exact ⟨a, vs, e, q, .inr s⟩
  · cases e
    rw [RV] at r
    obtain ⟨a, vs, e, s, q⟩ := r
    exact ⟨a, vs, e, q, .inl s.seq⟩
  · rw [RV] at r
    obtain ⟨a, e1, q⟩ := r
    have o := R.obj _ _ e1
    split at e
    · rename_i xs z
      cases e
      rw [z] at o
      obtain ⟨vs, hp, q2⟩ := o
      exact ⟨a, vs, q, q2, .inl (.of hp)⟩
    · cases e
  · cases e
def bList : O1 := fun ds G => match ds with
  | [d] => (itemsD d G).map fun xs => (.ref G.n, G.push (.lst xs))
  | _ => none
theorem cf_list : CalF X g (.type "list") bList := by
  refine CallR.imp call_list_of ?_
  rintro vs H Q ⟨ρ, G, ds, R, r, d', G', e, k⟩
  unfold bList at e
  split at e
  · obtain ⟨xs, e1, e2⟩ := Option.map_eq_some_iff.mp e
    cases e2
    obtain ⟨v, rfl, rv⟩ := r.one
    obtain ⟨a, ws, rfl, q, s⟩ := items_of R rv e1
    refine ⟨a, ws, rfl, s, fun l hl => ?_⟩
    obtain ⟨x2, R2, r2⟩ := lst_new R q hl
    exact k _ _ _ x2 R2 r2
  · cases e
def bTuple : O1 := fun ds G => match ds with
  | [d] => (itemsD d G).map fun xs => (.tup xs, G)
  | _ => none
theorem cf_tuple : CalF X g (.type "tuple") bTuple := by
  refine CallR.imp call_tuple_of ?_
  rintro vs H Q ⟨ρ, G, ds, R, r, d', G', e, k⟩
  unfold bTuple at e
  split at e
  · obtain ⟨xs, e1, e2⟩ := Option.map_eq_some_iff.mp e
    cases e2
    obtain ⟨v, rfl, rv⟩ := r.one
    obtain ⟨a, ws, rfl, q, s⟩ := items_of R rv e1
    refine ⟨a, ws, rfl, ?_⟩
    rcases s with s | s
    · refine .inl ⟨s, fun l hl => ?_⟩
      obtain ⟨x2, R2, r2⟩ := tup_new R q hl
      exact k _ _ _ x2 R2 r2
    · exact .inr ⟨s, k _ _ _ (.refl _ _) R (by rw [RV]; exact ⟨a, ws, rfl, s, q⟩)⟩
  · cases e
/-! ### sum, all, any of a list -/
def intsD : List D → Option (List Int)
  | [] => some []
  | .int i :: r => (intsD r).map fun l => i :: l
  | _ => none
def blsD : List D → Option (List Bool)
  | [] => some []
  | .bl i :: r => (blsD r).map fun l => i :: l
  | _ => none
theorem ints_of {K : PySem.W.Frag} {ρ : List Addr} {H : Hp} : ∀ {ds : List D} {vs : List V} {l : List Int}, RVs K g ρ H ds vs → intsD ds = some l → vs = l.map V.int
  | [], vs, l, r, e => by cases e; rw [RVs] at r; exact r
  | d :: ds, vs, l, r, e => by
    rw [RVs] at r
    obtain ⟨v, q, e1, r1, r2⟩ := r
    cases d with
    | int i =>
      obtain ⟨l', e2, e3⟩ := Option.map_eq_some_iff.mp e
      subst e3
      cases (show v = .int i from r1)
      rw [e1, ints_of r2 e2]
      rfl
    | _ => cases e
theorem bls_of {K : PySem.W.Frag} {ρ : List Addr} {H : Hp} : ∀ {ds : List D} {vs : List V} {l : List Bool}, RVs K g ρ H ds vs → blsD ds = some l → vs = l.map V.bl
  | [], vs, l, r, e => by cases e; rw [RVs] at r; exact r
  | d :: ds, vs, l, r, e => by
    rw [RVs] at r
    obtain ⟨v, q, e1, r1, r2⟩ := r
    cases d with
    | bl i =>
      obtain ⟨l', e2, e3⟩ := Option.map_eq_some_iff.mp e
      subst e3
      cases (show v = .bl i from r1)
      rw [e1, bls_of r2 e2]
      rfl
    | _ => cases e
/-- the items of a list -/
def lstD (d : D) (G : Gh) : Option (List D) := match d with
  | .ref l => (match G.ob l with
    | .lst xs => some xs
    | _ => none)
  | .rol xs => some xs
  | _ => none
theorem lst_of {K : PySem.W.Frag} {ρ : List Addr} {G : Gh} {H : Hp} {d : D} {v : V} {xs : List D} (R : Rep K g ρ G H) (r : RV K g ρ H d v) (e : lstD d G = some xs) : ∃ a vs, v = .ref a ∧ RVs K g ρ H xs vs ∧ SqL K H a vs := by
  unfold lstD at e
  split at e
  · rw [RV] at r
    obtain ⟨a, e1, q⟩ := r
    have o := R.obj _ _ e1
    split at e
    · rename_i xs z
      cases e
      rw [z] at o
      obtain ⟨vs, hp, q2⟩ := o
      exact ⟨a, vs, q, q2, .of hp⟩
    · cases e
  · cases e
    rw [RV] at r
    obtain ⟨a, vs, e, s, q⟩ := r
    exact ⟨a, vs, e, q, s.seq⟩
  · cases e
def bSum : O1 := fun ds G => match ds with
  | [d] => ((lstD d G).bind intsD).map fun l => (.int l.sum, G)
  | _ => none
def bAll : O1 := fun ds G => match ds with
  | [d] => ((lstD d G).bind blsD).map fun l => (.bl (l.all id), G)
  | _ => none
def bAny : O1 := fun ds G => match ds with
  | [d] => ((lstD d G).bind blsD).map fun l => (.bl (l.any id), G)
  | _ => none
theorem cf_sum (hc : X.calm = true) : CalF X g (.builtin "sum") bSum := by
  refine CallR.imp (cr_sum hc) ?_
  rintro vs H Q ⟨ρ, G, ds, R, r, d', G', e, k⟩
  unfold bSum at e
  split at e
  · obtain ⟨l, e1, e2⟩ := Option.map_eq_some_iff.mp e
    cases e2
    obtain ⟨xs, e3, e4⟩ := Option.bind_eq_some_iff.mp e1
    obtain ⟨v, rfl, rv⟩ := r.one
    obtain ⟨a, ws, rfl, q, s⟩ := lst_of R rv e3
    rw [ints_of q e4] at s
    exact ⟨a, l, rfl, s, k _ ρ H (.refl _ _) R rfl⟩
  · cases e
theorem cf_all (hc : X.calm = true) : CalF X g (.builtin "all") bAll := by
  refine CallR.imp (cr_all hc) ?_
  rintro vs H Q ⟨ρ, G, ds, R, r, d', G', e, k⟩
  unfold bAll at e
  split at e
  · obtain ⟨l, e1, e2⟩ := Option.map_eq_some_iff.mp e
    cases e2
    obtain ⟨xs, e3, e4⟩ := Option.bind_eq_some_iff.mp e1
    obtain ⟨v, rfl, rv⟩ := r.one
    obtain ⟨a, ws, rfl, q, s⟩ := lst_of R rv e3
    rw [bls_of q e4] at s
    exact ⟨a, l, rfl, s, k _ ρ H (.refl _ _) R rfl⟩
  · cases e
theorem cf_any (hc : X.calm = true) : CalF X g (.builtin "any") bAny := by
  refine CallR.imp (cr_any hc) ?_
  rintro vs H Q ⟨ρ, G, ds, R, r, d', G', e, k⟩
  unfold bAny at e
  split at e
  · obtain ⟨l, e1, e2⟩ := Option.map_eq_some_iff.mp e
    cases e2
    obtain ⟨xs, e3, e4⟩ := Option.bind_eq_some_iff.mp e1
    obtain ⟨v, rfl, rv⟩ := r.one
    obtain ⟨a, ws, rfl, q, s⟩ := lst_of R rv e3
    rw [bls_of q e4] at s
    exact ⟨a, l, rfl, s, k _ ρ H (.refl _ _) R rfl⟩
  · cases e
/-! ### isinstance: the built-in types by numbers -/
def tyNm : Nat → String
  | 0 => "NoneType"
  | 1 => "bool"
  | 2 => "int"
  | 3 => "str"
  | 4 => "tuple"
  | 5 => "list"
  | _ => "dict"
def tyD (d : D) (G : Gh) : Option Nat := match d with
  | .non => some 0
  | .bl _ => some 1
  | .int _ => some 2
  | .str _ => some 3
  | .tup _ => some 4
  | .rol _ => some 5
  | .ref l => (match G.ob l with
    | .lst _ => some 5
    | .dct _ => some 6
    | _ => none)
  | _ => none
def isTy (a b : Nat) : Bool := a == b || (a == 1 && b == 2)
theorem isTy_ok : ∀ a, a < 7 → ∀ b, b < 7 → 0 < b → kitB (tyNm a) (tyNm b) = some (isTy a b) := by decide +kernel
theorem tyD_of {K : PySem.W.Frag} {ρ : List Addr} {G : Gh} {H : Hp} {d : D} {v : V} {n : Nat} (R : Rep K g ρ G H) (r : RV K g ρ H d v) (e : tyD d G = some n) : n < 7 ∧ TyX K H v (.type (tyNm n)) := by
  have tp : ∀ {a : Addr} {vs : List V}, SqT K H a vs → TyX K H (.ref a) (.type "tuple") := fun {a vs} s => by
    rcases s with (s | ⟨o, s⟩) | ⟨o, its, n, s, c, _⟩
    · exact .base (.tup s)
    · exact .fTuple s
    · exact .kTuple s c
  have tl : ∀ {a : Addr} {vs : List V}, SqL K H a vs → TyX K H (.ref a) (.type "list") := fun {a vs} s => by
    rcases s with (s | ⟨o, s⟩) | ⟨o, its, n, s, c, _⟩
    · exact .base (.lst s)
    · exact .base (.frz s)
    · exact .kList s c
  unfold tyD at e
  split at e
  · cases e; cases (show v = .non from r); exact ⟨by decide, .base .non⟩
  · cases e; cases (show v = .bl _ from r); exact ⟨by decide, .base (.bl _)⟩
  · cases e; cases (show v = .int _ from r); exact ⟨by decide, .base (.int _)⟩
  · cases e; cases (show v = .str _ from r); exact ⟨by decide, .base (.str _)⟩
  · cases e
    rw [RV] at r
    obtain ⟨a, vs, e, s, q⟩ := r
    subst e
    exact ⟨by decide, tp s⟩
  · cases e
    rw [RV] at r
    obtain ⟨a, vs, e, s, q⟩ := r
    subst e
    exact ⟨by decide, tl s.seq⟩
  · rw [RV] at r
    obtain ⟨a, e1, q⟩ := r
    subst q
    have o := R.obj _ _ e1
    split at e
    · rename_i xs z
      cases e
      rw [z] at o
      obtain ⟨vs, hp, q⟩ := o
      exact ⟨by decide, tl (.of hp)⟩
    · rename_i kvs z
      cases e
      rw [z] at o
      obtain ⟨ws, hp, q, _⟩ := o
      exact ⟨by decide, .base (.dK hp)⟩
    · cases e
  · cases e
def eIsi (b : Nat) (m : Ev → M D) : Ev → M D := fun env G => (m env G).bind fun d G1 => match tyD d G1 with
  | some n => .ok (.bl (isTy n b)) G1
  | none => .no
theorem fe_isi {y : Str} (n : Nat) (hn : 0 < n ∧ n < 7) (hg : Gl X "isinstance") (hm : X.mg "isinstance" = none) (hg2 : Gl X y) (hm2 : X.mg y = none) (hv : bootBuiltins y = some (.type (tyNm n))) (ha : FE X g W a ma)
    (hy : y ≠ "__name__" := by decide) (hd : (y == ("__debug__" : Str)) = false := by decide)
    (q0 : starEach [a, .Name y p2] X.env = (false, eval a X.env) :: starEach [.Name y p2] X.env := by rfl) (q1 : starEach [.Name y p2] X.env = (false, eval (.Name y p2) X.env) :: starEach [] X.env := by rfl) (q2 : (backTo pos (starEach [.Name y p2] X.env)).any (·.1) = false := by rfl) :
    FE X g W (.Call (.Name "isinstance" p) [a, .Name y p2] [] pos) (eIsi n ma) := by
  have hT : PE X (.Name y p2) (tC (.ty (tyNm n))) := ⟨fun _ _ _ H _ I h => ld_blt I hg2 hm2 hv ⟨.ty (tyNm n), H, I, rfl, h⟩ hy hd⟩
  refine PE.imp (pe_callB call_isi hg hm (by decide +kernel) (pa_cons ha (pa_cons hT pa_nil q1) q0) (by decide) (by decide) q0 q2) ?_
  rintro σ H Q ⟨ρ, env, G, R, E, h⟩
  refine tE_run R E h.bind fun d G1 ρ1 H1 x1 R1 h1 v1 r1 => ?_
  cases z : tyD d G1 with
  | none => rw [z] at h1; exact h1.elim
  | some k =>
    rw [z] at h1
    obtain ⟨h7, ty⟩ := tyD_of R1 r1 z
    exact ⟨v1, .ty (tyNm n), _, _, _, rfl, .ty _, ty, kit_ty (isTy_ok k h7 n hn.2 hn.1), h1.now R1 _ rfl⟩

/-! ### methods of built-ins -/
abbrev OM := D → List D → Gh → Option (D × Gh)
def rM (K : PySem.W.Frag) (g : Tg) (f : OM) : V → List V → Hp → VK → Prop := fun x vs H Q => ∃ ρ G d ds, Rep K g ρ G H ∧ RV K g ρ H d x ∧ RVs K g ρ H ds vs ∧ ∃ d' G', f d ds G = some (d', G') ∧ ∀ v ρ' H', Ext ρ H ρ' H' → Rep K g ρ' G' H' → RV K g ρ' H' d' v → Q v H'
abbrev MtF (X : Cx) (g : Tg) (id : String) (f : OM) : Prop := MtR X id (rM X.K g f)
theorem MtR.imp {id : String} {r r' : V → List V → Hp → VK → Prop} (h : MtR X id r) (k : ∀ x xs H Q, r' x xs H Q → r x xs H Q) : MtR X id r' := fun pins s σ H x xs v us Q I rx rxs q => h pins s σ H x xs v us Q I rx rxs (k x xs H Q q)
/-- a list of ours, a text: what methods are asked of -/
def isLst (d : D) (G : Gh) : Bool := match d with
  | .ref l => (match G.ob l with
    | .lst _ => true
    | _ => false)
  | _ => false
def eMt (f : OM) (mo : Ev → M D) (n : Ev → M (List D)) : Ev → M D := fun env G => (mo env G).bind fun d G1 => if isLst d G1 = true then (n env G1).bind fun ds G2 => lift (f d ds G2) else .no
theorem isLst_ty {ρ : List Addr} {G : Gh} {H : Hp} {d : D} {v : V} (R : Rep X.K g ρ G H) (r : RV X.K g ρ H d v) (h : isLst d G = true) : tyV X.K "list" v H := by
  unfold isLst at h
  split at h
  · rw [RV] at r
    obtain ⟨a, e1, q⟩ := r
    subst q
    have o := R.obj _ _ e1
    split at h
    · rename_i xs z
      rw [z] at o
      obtain ⟨vs, hp, q⟩ := o
      exact .inl ⟨rfl, vs, .of hp⟩
    · cases h
  · cases h
theorem fe_lmt {f : OM} {name : Str} (slot : Slot "list" name idn) (hty : typeOf (.builtin idn) = pure (.type "method_descriptor")) (hm : MtF X g idn f) (ho : FE X g W o mo) (ha : FA X g W (e :: es) ms)
    (hbase : attributeBase o name X.env (eval o X.env) = eval o X.env := by rfl)
    (hfew : ((backTo cpos (starEach (e :: es) X.env)).all (fun x => !x.1) && (backToKw cpos (keywordEach [] X.env)).all (fun x => x.1.isSome)
      && decide ((e :: es).length + ([] : List Keyword).length + (if ([] : List Keyword).isEmpty then 0 else 1) < 30)) = true := by rfl)
    (hline : (apos.endLine == cpos.line) = true := by rfl) (hs : starEach (e :: es) X.env = (false, eval e X.env) :: starEach es X.env := by rfl) (hplain : (backTo cpos (starEach es X.env)).any (·.1) = false := by rfl) :
    FE X g W (.Call (.Attribute o name apos) (e :: es) [] cpos) (eMt f mo ms) := by
  refine PE.imp (pe_bm PySem.F.plainAttrs_list slot hty hm ho ha hbase hfew hline hs hplain) ?_
  rintro σ H Q ⟨ρ, env, G, R, E, h⟩
  refine tE_run R E h.bind fun d G1 ρ1 H1 x1 R1 h1 v1 r1 => ?_
  split at h1
  · rename_i hl
    refine ⟨isLst_ty R1 r1 hl, tA_run R1 (E.ext x1) h1.bind fun ds G2 ρ2 H2 x2 R2 h2 vs r2 => ?_⟩
    obtain ⟨d', G', e, k⟩ := h2.lift
    exact ⟨ρ2, G2, d, ds, R2, r1.ext x2, r2, d', G', e, fun v ρ' H' x' R' r' => k ρ' H' x' R' v r'⟩
  · exact h1.elim
theorem fe_lmt0 {f : OM} {name : Str} (slot : Slot "list" name idn) (hty : typeOf (.builtin idn) = pure (.type "method_descriptor")) (hm : MtF X g idn f) (ho : FE X g W o mo)
    (hbase : attributeBase o name X.env (eval o X.env) = eval o X.env := by rfl) (hline : (apos.endLine == cpos.line) = true := by rfl) :
    FE X g W (.Call (.Attribute o name apos) [] [] cpos) (eMt f mo aNil) := by
  refine PE.imp (pe_bm0 PySem.F.plainAttrs_list slot hty hm ho hbase hline) ?_
  rintro σ H Q ⟨ρ, env, G, R, E, h⟩
  refine tE_run R E h.bind fun d G1 ρ1 H1 x1 R1 h1 v1 r1 => ?_
  split at h1
  · rename_i hl
    refine ⟨isLst_ty R1 r1 hl, ?_⟩
    obtain ⟨d', G', e, k⟩ := h1.bind.now R1 |>.lift
    exact ⟨ρ1, G1, d, [], R1, r1, .nil, d', G', e, fun v ρ' H' x' R' r' => k ρ' H' x' R' v r'⟩
  · exact h1.elim
def mAppend : OM := fun d ds G => match d with
  | .ref l => (match G.ob l with
    | .lst xs => (match ds with
      | [y] => if xs.length < sizeLine then some (.non, G.set l (.lst (xs ++ [y]))) else none
      | _ => none)
    | _ => none)
  | _ => none
theorem mf_append : MtF X g "list.append" mAppend := by
  refine MtR.imp mt_append ?_
  rintro x vs H Q ⟨ρ, G, d, ds, R, rd, rs, d', G', e, k⟩
  unfold mAppend at e
  split at e
  · rename_i l
    split at e
    · rename_i xs ho
      split at e
      · rename_i y
        split at e
        · rename_i hz
          cases e
          rw [RV] at rd
          obtain ⟨a, q, z⟩ := rd
          subst z
          obtain ⟨v, rfl, rv⟩ := rs.one
          have o := R.obj _ _ q
          rw [ho] at o
          obtain ⟨ws, hp, r⟩ := o
          obtain ⟨R2, x2⟩ := R.write (o := .lst (ws ++ [v])) (ob := .lst (xs ++ [y])) q (by rw [ho]; rfl) fun x => ⟨_, upd_same, (r.app (.cons rv .nil)).ext x⟩
          exact ⟨a, ws, v, rfl, rfl, hp, by rw [r.len]; exact hz, k _ _ _ x2 R2 rfl⟩
        · cases e
      · cases e
    · cases e
  · cases e
def mExtend : OM := fun d ds G => match d with
  | .ref l => (match G.ob l with
    | .lst xs => (match ds with
      | [.ref l2] => (match G.ob l2 with
        | .lst ys => if xs.length + ys.length ≤ sizeLine then some (.non, G.set l (.lst (xs ++ ys))) else none
        | _ => none)
      | _ => none)
    | _ => none)
  | _ => none
theorem mf_extend : MtF X g "list.extend" mExtend := by
  refine MtR.imp mt_extend ?_
  rintro x vs H Q ⟨ρ, G, d, ds, R, rd, rs, d', G', e, k⟩
  unfold mExtend at e
  split at e
  · rename_i l
    split at e
    · rename_i xs ho
      split at e
      · rename_i l2
        split at e
        · rename_i ys ho2
          split at e
          · rename_i hz
            cases e
            rw [RV] at rd
            obtain ⟨a, q, z⟩ := rd
            subst z
            obtain ⟨v, rfl, rv⟩ := rs.one
            rw [RV] at rv
            obtain ⟨b, q2, z⟩ := rv
            subst z
            have o := R.obj _ _ q
            rw [ho] at o
            obtain ⟨ws, hp, r⟩ := o
            have o2 := R.obj _ _ q2
            rw [ho2] at o2
            obtain ⟨ws2, hp2, r2⟩ := o2
            obtain ⟨R2, x2⟩ := R.write (o := .lst (ws ++ ws2)) (ob := .lst (xs ++ ys)) q (by rw [ho]; rfl) fun x => ⟨_, upd_same, (r.app r2).ext x⟩
            exact ⟨a, b, ws, ws2, rfl, rfl, hp, hp2, by rw [r.len, r2.len]; exact hz, k _ _ _ x2 R2 rfl⟩
          · cases e
        · cases e
      · cases e
    · cases e
  · cases e
def mClear : OM := fun d ds G => match d with
  | .ref l => (match G.ob l with
    | .lst xs => (match ds with
      | [] => some (.non, G.set l (.lst []))
      | _ => none)
    | _ => none)
  | _ => none
theorem mf_clear : MtF X g "list.clear" mClear := by
  refine MtR.imp mt_clear ?_
  rintro x vs H Q ⟨ρ, G, d, ds, R, rd, rs, d', G', e, k⟩
  unfold mClear at e
  split at e
  · rename_i l
    split at e
    · rename_i xs ho
      split at e
      · cases e
        rw [RV] at rd
        obtain ⟨a, q, z⟩ := rd
        subst z
        rw [RVs] at rs
        have o := R.obj _ _ q
        rw [ho] at o
        obtain ⟨ws, hp, r⟩ := o
        obtain ⟨R2, x2⟩ := R.write (o := .lst []) (ob := .lst []) q (by rw [ho]; rfl) fun x => ⟨[], upd_same, .nil⟩
        exact ⟨a, ws, rfl, rs, hp, k _ _ _ x2 R2 rfl⟩
      · cases e
    · cases e
  · cases e
/-! ### d.get -/
def dctD (d : D) (G : Gh) : Option (List (Key × D)) := match d with
  | .ref l => (match G.ob l with
    | .dct kvs => some kvs
    | .lk kvs => some kvs
    | _ => none)
  | _ => none
theorem dct_of {K : PySem.W.Frag} {ρ : List Addr} {G : Gh} {H : Hp} {d : D} {v : V} {kvs : List (Key × D)} (R : Rep K g ρ G H) (r : RV K g ρ H d v) (e : dctD d G = some kvs) : ∃ a ws, v = .ref a ∧ Rd H a (.dK ws) ∧ RM K g ρ H id kvs ws := by
  unfold dctD at e
  split at e
  · rw [RV] at r
    obtain ⟨a, e1, q⟩ := r
    have o := R.obj _ _ e1
    split at e
    · rename_i xs z
      cases e
      rw [z] at o
      obtain ⟨ws, hp, q2, _⟩ := o
      exact ⟨a, ws, q, .inl hp, q2⟩
    · rename_i xs z
      cases e
      rw [z] at o
      obtain ⟨od, ws, hp, q2, _⟩ := o
      exact ⟨a, ws, q, .inr ⟨od, hp⟩, q2⟩
    · cases e
  · cases e
def eGet1 (mo mk : Ev → M D) : Ev → M D := fun env G => (mo env G).bind fun d G1 => match dctD d G1 with
  | some _ => (mk env G1).bind fun y G2 => (match dctD d G2, keyD y with
    | some kvs, some k => .ok ((valD kvs k).getD .non) G2
    | _, _ => .no)
  | none => .no
def eGet2 (mo mk mz : Ev → M D) : Ev → M D := fun env G => (mo env G).bind fun d G1 => match dctD d G1 with
  | some _ => (mk env G1).bind fun y G2 => (mz env G2).bind fun z G3 => (match dctD d G3, keyD y with
    | some kvs, some k => .ok ((valD kvs k).getD z) G3
    | _, _ => .no)
  | none => .no
theorem fe_get1 {mk : Ev → M D} (hu : X.A.units + 1 < cLine) (ho : FE X g W o mo) (hk : FE X g W e mk) (m : M1 X o "get" apos e cpos) : FE X g W (.Call (.Attribute o "get" apos) [e] [] cpos) (eGet1 mo mk) := by
  refine PE.imp (pe_dget1 hu ho hk m) ?_
  rintro σ H Q ⟨ρ, env, G, R, E, h⟩
  refine tE_run R E h.bind fun d G1 ρ1 H1 x1 R1 h1 v1 r1 => ?_
  split at h1
  · rename_i kvs0 e0
    obtain ⟨a, ws, ea, rd, _⟩ := dct_of R1 r1 e0
    refine ⟨a, ea, .inl ⟨ws, rd⟩, tE_run R1 (E.ext x1) h1.bind fun y G2 ρ2 H2 x2 R2 h2 v2 r2 => ?_⟩
    split at h2
    · rename_i kvs k e1 e2
      obtain ⟨a', ws', ea', rd', rm⟩ := dct_of R2 (r1.ext x2) e1
      rw [ea] at ea'; cases ea'
      refine ⟨_, .inl ⟨ws', k, rd', key_of' r2 e2, rfl⟩, h2.now R2 _ ?_⟩
      cases z : valD kvs k with
      | none => rw [(RM.val rm).2 z]; exact rfl
      | some d2 =>
        obtain ⟨w, e3, r3⟩ := (RM.val rm).1 _ z
        rw [e3]
        exact r3
    · exact h2.elim
  · exact h1.elim
theorem fe_get2 {e2 : Expr} {mk mz : Ev → M D} (hu : X.A.units + 1 < cLine) (ho : FE X g W o mo) (hk : FE X g W e mk) (hz : FE X g W e2 mz) (m : M2 X o "get" apos e e2 cpos) : FE X g W (.Call (.Attribute o "get" apos) [e, e2] [] cpos) (eGet2 mo mk mz) := by
  refine PE.imp (pe_dget2 hu ho hk hz m) ?_
  rintro σ H Q ⟨ρ, env, G, R, E, h⟩
  refine tE_run R E h.bind fun d G1 ρ1 H1 x1 R1 h1 v1 r1 => ?_
  split at h1
  · rename_i kvs0 e0
    obtain ⟨a, ws, ea, rd, _⟩ := dct_of R1 r1 e0
    refine ⟨a, ea, .inl ⟨ws, rd⟩, tE_run R1 (E.ext x1) h1.bind fun y G2 ρ2 H2 x2 R2 h2 v2 r2 => tE_run R2 ((E.ext x1).ext x2) h2.bind fun z G3 ρ3 H3 x3 R3 h3 v3 r3 => ?_⟩
    split at h3
    · rename_i kvs k e1 e2
      obtain ⟨a', ws', ea', rd', rm⟩ := dct_of R3 ((r1.ext x2).ext x3) e1
      rw [ea] at ea'; cases ea'
      refine ⟨_, .inl ⟨ws', k, rd', key_of' (r2.ext x3) e2, rfl⟩, h3.now R3 _ ?_⟩
      cases z : valD kvs k with
      | none => rw [(RM.val rm).2 z]; exact r3
      | some d2 =>
        obtain ⟨w, e3, r4⟩ := (RM.val rm).1 _ z
        rw [e3]
        exact r4
    · exact h3.elim
  · exact h1.elim
/-! ### {} -/
def eDct0 : Ev → M D := fun _ G => .ok (.ref G.n) (G.push (.dct []))
theorem fe_dct0 : FE X g W (.Dict [] [] pos) eDct0 := by
  refine PE.imp pe_dnewK ?_
  rintro σ H Q ⟨ρ, env, G, R, E, h⟩ l hl
  have x : Ext ρ H (ρ ++ [l]) (upd H l (.dK [])) := ⟨fun i a e => by rw [List.getElem?_append_left (List.getElem?_eq_some_iff.mp e).1]; exact e, .new hl⟩
  obtain ⟨R', _, q⟩ := R.new (ob := .dct []) hl ⟨[], upd_same, by rw [RM], List.nodup_nil⟩
  exact h _ _ x R' _ (by rw [RV]; exact ⟨l, q, rfl⟩)
end
end Mi
/-! F, part 8: defs, what the head tells, the end. -/
namespace Mi
open PySem PySem.Spec PyProof.Rows L2

/-! ### a def's mirror -/
def mFun (np nn : Nat) (mb : Sm) : List D → M D := fun ds G => if ds.length = np then (match mb (ds.map some ++ List.replicate (nn - np) none) G with
  | .nx _ G' => .ok .non G'
  | .rt d G' => .ok d G'
  | .er c _ G' => .er c G'
  | _ => .no) else .no
section
variable {P : Program} {w : World} {K : PySem.W.Frag} {mg : Str → Option Value} {base : Heap} {g : Tg}
theorem spF_len {np nn : Nat} {mb : Sm} {vs : List V} {H : Hp} {Q : VK} {E : XK} (h : spF K g (mFun np nn mb) vs H Q E) : vs.length = np := by
  obtain ⟨ρ, G, ds, R, r, h⟩ := h
  unfold mFun at h
  split at h
  · rename_i hl
    rw [r.len, hl]
  · exact h.elim
theorem fun_start {np : Nat} {N : List Str} {mb : Sm} {vs : List V} {H : Hp} {Q : VK} {E : XK} (h : spF K g (mFun np N.length mb) vs H Q E) : tS K g (fun c d _ H => E c d H) mb { nx := fun _ H' => Q .non H', rt := Q } (start N vs) H := by
  have hl := spF_len h
  obtain ⟨ρ, G, ds, R, r, h⟩ := h
  unfold mFun at h
  have hd : ds.length = np := by rw [← r.len, hl]
  rw [if_pos hd] at h
  have e : L2.start N vs = vs.map some ++ List.replicate (N.length - np) none := by unfold L2.start; rw [hl]
  rw [e]
  refine ⟨ρ, _, G, R, RE.args (N.length - np) r, ?_⟩
  cases z : mb (ds.map some ++ List.replicate (N.length - np) none) G with
  | nx env G' =>
    rw [z] at h
    exact fun ρ' H' σ' x R' E' => h ρ' H' x R' _ rfl
  | rt d G' =>
    rw [z] at h
    exact fun ρ' H' v x R' r' => h ρ' H' x R' v r'
  | er c env G' =>
    rw [z] at h
    exact fun ρ' H' σ' x R' E' => h ρ' H' x R'
  | bk env G' => rw [z] at h; exact h.elim
  | ct env G' => rw [z] at h; exact h.elim
  | no => rw [z] at h; exact h.elim
variable {x qual : Str} {params : Arguments} {body : List Stmt} {scope : Scope} {f : Addr} {N ps : List Str} {k : Nat} {mb : Sm}
/-- THE RULE for a def -/
theorem fnR (F : ∃ fd, FunD K x qual params body scope [] [] f fd) (S : FnScope N ps scope)
    (hb : ∀ (kV doc pm : Value) (an : Option Addr) (cdv ct : Value) (us : List Value), us.length = ps.length → bindArgs (PySem.W.fnOf x qual params body scope .none kV doc pm an cdv ct) ⟨us, []⟩ = pure (ps.zip us))
    (hbody : ∀ (cdv : Value) (A : Around) (outer : List Env) (s : Shared) (H : Hp) (E : XK), Room k (A.deeper (envOfC qual scope s.heap.objs.size f cdv)) →
      FSs (cxOf (L2N.CX P w) P w K mg base N qual scope f cdv A outer s H E) g (fun c d _ H => E c d H) body mb) : FnR P w K mg base (k + 1) f (spF K g (mFun ps.length N.length mb)) := by
  obtain ⟨fd, F⟩ := F
  refine ⟨⟨fd, ps, F.ok S (fun vs H Q E h => spF_len h) fun cdv A outer s H vs Q E hr h => ⟨_, hbody cdv A outer s H E hr, fun_start h⟩, F.bindsN hb⟩, F.kp⟩
theorem fnO {fd : FuncData} (F : FunD K x qual params body scope [] [] f fd) (S : FnScope N ps scope)
    (hbody : ∀ (cdv : Value) (A : Around) (outer : List Env) (s : Shared) (H : Hp) (E : XK), Room k (A.deeper (envOfC qual scope s.heap.objs.size f cdv)) →
      FSs (cxOf (L2N.CX P w) P w K mg base N qual scope f cdv A outer s H E) g (fun c d _ H => E c d H) body mb) : FnOk P w K mg base (L2N.CX P w) (k + 1) f fd ps (spF K g (mFun ps.length N.length mb)) :=
  F.ok S (fun vs H Q E h => spF_len h) fun cdv A outer s H vs Q E hr h => ⟨_, hbody cdv A outer s H E hr, fun_start h⟩
theorem fnRH (F : ∃ fd, FunD K x qual params body scope [] [] f fd) (S : FnScope N ps scope) {m : Addr → Nat → Sm} {a : Addr} {c : Nat}
    (hb : ∀ (kV doc pm : Value) (an : Option Addr) (cdv ct : Value) (us : List Value), us.length = ps.length → bindArgs (PySem.W.fnOf x qual params body scope .none kV doc pm an cdv ct) ⟨us, []⟩ = pure (ps.zip us))
    (hbody : ∀ (cdv : Value) (A : Around) (outer : List Env) (s : Shared) (H : Hp) (E : XK) (p : Addr × Obj), L2H.Hot1 A p → L2H.RoomH k (A.deeper (envOfC qual scope s.heap.objs.size f cdv)) →
      FSs (L2H.cxH (L2N.CX P w) P w K mg base N qual scope f cdv A outer s H E p) g (fun c d _ H => E c d H) body mb) : FnRH P w K mg base (k + 1) f (spF K g (mFun ps.length N.length mb)) := by
  obtain ⟨fd, F⟩ := F
  have bn := F.bindsN hb
  have kp := F.kp
  obtain ⟨oc, od, dV, kV, doc, pm, an, cdv, ct, osl, rfl, lk, hcd, _, _⟩ := F.ex
  exact ⟨⟨_, ps, L2H.fn_ofH lk hcd S (fun vs H Q E h => spF_len h) fun A outer s H vs Q E p hot hr h => ⟨_, hbody cdv A outer s H E p hot hr, fun_start h⟩, bn⟩, kp⟩
theorem FnR.mono {sp : Sp} {j k : Nat} (F : FnR P w K mg base j f sp) (h : j ≤ k) : FnR P w K mg base k f sp := by
  obtain ⟨fd, ps, o, b⟩ := F.ex
  exact ⟨⟨fd, ps, ⟨o.len, fun A outer s H args us vs Q E hr => o.run A outer s H args us vs Q E (hr.mono h)⟩, b⟩, F.kp⟩
end

/-! ### what the head tells -/
/-- a written value: texts, numbers, tuples of such -/
def valB (K : PySem.W.Frag) : Nat → D → Value → Bool
  | _, .non, .none => true
  | _, .bl b, .bool c => b == c
  | _, .int i, .int j _ => i == j
  | _, .str x, .str y _ => decide (x = y)
  | n + 1, .tup ds, .ref a => (match K.lookup a with
    | some ⟨.type c, none, .seq its _, _⟩ => decide (c = "tuple") && (decide (its.size ≤ 1000) && (decide (its.toList.length = ds.length) && (ds.zip its.toList).all fun p => valB K n p.1 p.2))
    | _ => false)
  | _, _, _ => false
theorem all_zip {K : PySem.W.Frag} {g : Tg} {n : Nat} (ih : ∀ d u, valB K n d u = true → ∃ v, RelV v u ∧ ∀ ρ H, RV K g ρ H d v) : ∀ {ds : List D} {us : List Value}, us.length = ds.length → ((ds.zip us).all fun p => valB K n p.1 p.2) = true → ∃ vs, Vals vs us ∧ ∀ ρ H, RVs K g ρ H ds vs
  | [], [], _, _ => ⟨[], .nil, fun _ _ => .nil⟩
  | [], _ :: _, h, _ => by cases h
  | _ :: _, [], h, _ => by cases h
  | d :: ds, u :: us, h, e => by
    rw [List.zip_cons_cons, List.all_cons, Bool.and_eq_true] at e
    obtain ⟨v, r, k⟩ := ih d u e.1
    obtain ⟨vs, r2, k2⟩ := all_zip ih (Nat.succ.inj h) e.2
    exact ⟨v :: vs, .cons r r2, fun ρ H => .cons (k ρ H) (k2 ρ H)⟩
theorem small1k {n : Nat} (h : n ≤ 1000) : n ≤ sizeLine := Nat.le_trans h (by decide)
theorem valB_ok {K : PySem.W.Frag} {g : Tg} : ∀ (n : Nat) (d : D) (u : Value), valB K n d u = true → ∃ v, RelV v u ∧ ∀ ρ H, RV K g ρ H d v
  | n, .non, u, h => by cases u <;> first | (exact ⟨.non, rfl, fun _ _ => rfl⟩) | (cases n <;> cases h)
  | n, .bl b, u, h => by
    cases u with
    | bool c =>
      have e : b = c := by cases n <;> exact beq_iff_eq.mp h
      exact ⟨.bl b, by rw [e]; rfl, fun _ _ => rfl⟩
    | _ => cases n <;> cases h
  | n, .int b, u, h => by
    cases u with
    | int c t =>
      have e : b = c := by cases n <;> exact beq_iff_eq.mp h
      exact ⟨.int b, ⟨t, by rw [e]⟩, fun _ _ => rfl⟩
    | _ => cases n <;> cases h
  | n, .str b, u, h => by
    cases u with
    | str c t =>
      have e : b = c := by cases n <;> exact of_decide_eq_true h
      exact ⟨.str b, ⟨t, by rw [e]⟩, fun _ _ => rfl⟩
    | _ => cases n <;> cases h
  | 0, .tup ds, u, h => by cases u <;> cases h
  | n + 1, .tup ds, u, h => by
    cases u with
    | ref a =>
      unfold valB at h
      split at h
      · rename_i c its m sl q
        rw [Bool.and_eq_true, Bool.and_eq_true, Bool.and_eq_true] at h
        obtain ⟨h1, h2, h3, h4⟩ := h
        obtain ⟨vs, r, k⟩ := all_zip (valB_ok (g := g) n) (of_decide_eq_true h3) h4
        refine ⟨.ref a, rfl, fun ρ H => ?_⟩
        rw [RV]
        exact ⟨a, vs, rfl, .inr ⟨_, its, m, q, congrArg Value.type (of_decide_eq_true h1), rfl, small1k (of_decide_eq_true h2), r⟩, k ρ H⟩
      · cases h
    | _ => cases h
  | n, .rol ds, u, h => by cases n <;> cases u <;> cases h
  | n, .ref ds, u, h => by cases n <;> cases u <;> cases h
  | n, .cst ds, u, h => by cases n <;> cases u <;> cases h
  | n, .exc ds, u, h => by cases n <;> cases u <;> cases h
theorem valB_tup {K : PySem.W.Frag} {n : Nat} {ds : List D} {u : Value} (h : valB K n (.tup ds) u = true) : ∃ a o, u = .ref a ∧ K.lookup a = some o ∧ o.cls = .type "tuple" ∧ o.dict = none := by
  cases n with
  | zero => cases u <;> cases h
  | succ n =>
    cases u with
    | ref a =>
      unfold valB at h
      split at h
      · rename_i c its m sl q
        rw [Bool.and_eq_true] at h
        exact ⟨a, _, rfl, q, congrArg Value.type (of_decide_eq_true h.1), rfl⟩
      · cases h
    | _ => cases h
/-- what an exception's class must say, so that isinstance may be asked -/
def excCB (K : PySem.W.Frag) (D : Addr) : Bool :=
  decide (PySem.W.findIn K (.ref D) "__getattribute__" = some (some (.builtin "BaseException.__getattribute__"))) && (decide (PySem.W.findIn K (.ref D) "__getattr__" = some none) && (decide (PySem.W.subIn K (.ref D) (.type "BaseException") = some true) &&
    (PySem.W.hasDictIn K D && (decide (PySem.W.findIn K (.ref D) "__class__" = some (some (.builtin "object.__class__"))) && (decide (PySem.W.specialIn K (.builtin "object.__class__") "__get__" = some (some (.builtin "getset_descriptor.__get__"))) &&
      (decide (PySem.W.takesIn K (.builtin "object.__class__") = some true) && decide (PySem.W.mroIn K D (.type "object") = some true)))))))
theorem excCB_ok {K : PySem.W.Frag} {D : Addr} (h : excCB K D = true) : ExcC K D := by
  unfold excCB at h
  simp only [Bool.and_eq_true, decide_eq_true_eq] at h
  obtain ⟨h1, h2, h3, h4, h5, h6, h7, h8⟩ := h
  exact ⟨h1, h2, h3, h4, h5, h6, h7, h8⟩
/-- one fact more: of an exception's class; isinstance of it; a written value -/
inductive Fx where
  | exk (x : Str)
  | isi (x y : Str) (b : Bool)
  | isv (x : Str) (b : Bool)
  | val (x : Str) (d : D)
def Fx.ok (K : PySem.W.Frag) : Fx → Bool
  | .exk x => excCB K (He.ga K x)
  | .isi x y b => decide (PySem.W.kitOne K (.ref (He.ga K x)) (.ref (He.ga K y)) = some b)
  | .isv x b => decide (PySem.W.kitOne K (.ref (He.ga K x)) (.type "ValueError") = some b)
  | .val x d => (match PySem.W.nsIn K mainGlobals x with
    | some (some u) => valB K 5 d u
    | _ => false)
structure Txt (fa : List He.Fa) (fn : List He.DefD) (fx : List Fx) (K : PySem.W.Frag) (mg : Str → Option Value) : Prop where
  fact : ∀ f ∈ fa, f.ok K = true
  defs : ∀ d ∈ fn, ∃ fd, FunD K d.name d.qual d.params d.body d.scope (d.dvs K) (d.kws K) (He.fAd K d.at_) fd
  more : ∀ f ∈ fx, f.ok K = true
  ns : ∃ h : Heap, K.In h ∧ h.Ns mainGlobals mg
section
variable {fa : List He.Fa} {fn : List He.DefD} {fx : List Fx} {K : PySem.W.Frag} {mg : Str → Option Value}
theorem Txt.of {w : World} {h : Heap} (c : He.SaysX fa fn [] [] (fun K => fx.all fun f => f.ok K) w h K) (kin : K.In h) (ns : h.Ns mainGlobals mg) : Txt fa fn fx K mg :=
  ⟨fun f hf => He.SaysD.facts c.t.d hf, fun d hd => He.SaysD.defs c.t.d hd, fun f hf => List.all_eq_true.mp c.more f hf, h, kin, ns⟩
theorem Txt.glo (T : Txt fa fn fx K mg) {x : Str} (i : Nat) (h : fa[i]? = some (.glo x) := by rfl) : mg x = some (.ref (He.ga K x)) := let ⟨_, k, n⟩ := T.ns; He.glo_ok k n (T.fact _ (List.mem_of_getElem? h))
theorem Txt.free (T : Txt fa fn fx K mg) {x : Str} (i : Nat) (h : fa[i]? = some (.free x) := by rfl) : mg x = none := let ⟨_, k, n⟩ := T.ns; He.free_ok k n (T.fact _ (List.mem_of_getElem? h))
theorem Txt.int (T : Txt fa fn fx K mg) {x : Str} {z : Int} (i : Nat) (h : fa[i]? = some (.int x z) := by rfl) : ∃ t, mg x = some (.int z t) := let ⟨_, k, n⟩ := T.ns; He.int_ok k n (T.fact _ (List.mem_of_getElem? h))
theorem Txt.str (T : Txt fa fn fx K mg) {x z : Str} (i : Nat) (h : fa[i]? = some (.str x z) := by rfl) : ∃ t, mg x = some (.str z t) := let ⟨_, k, n⟩ := T.ns; He.str_ok k n (T.fact _ (List.mem_of_getElem? h))
theorem Txt.cls (T : Txt fa fn fx K mg) {x : Str} (h : .cls x ∈ fa) : Cls K (He.ga K x) := He.cls_ok (T.fact _ h)
theorem Txt.noat (T : Txt fa fn fx K mg) {x f : Str} (h : .noat x f ∈ fa) : NoAttr K (He.ga K x) f := He.noat_ok (T.fact _ h)
theorem Txt.meth (T : Txt fa fn fx K mg) {x m : Str} (i : Nat) (h : fa[i]? = some (.meth x m) := by rfl) : Meth K (He.ga K x) m (He.ma K (He.ga K x) m) := He.meth_ok (T.fact _ (List.mem_of_getElem? h))
theorem Txt.mkr (T : Txt fa fn fx K mg) {x : Str} (i : Nat) (h : fa[i]? = some (.mkr x) := by rfl) : Mk K (He.ga K x) (He.ma K (He.ga K x) "__init__") := He.mkr_ok (T.fact _ (List.mem_of_getElem? h))
theorem Txt.exc (T : Txt fa fn fx K mg) {x : Str} (i : Nat) (h : fa[i]? = some (.exc x) := by rfl) : ExcOk K (He.ga K x) := let ⟨a, b, c, d⟩ := He.exc_ok (T.fact _ (List.mem_of_getElem? h)); ⟨a, b, c, d⟩
theorem Txt.exm (T : Txt fa fn fx K mg) {x y : Str} {b : Bool} (h : .exm x y b ∈ fa) : PySem.W.exmOne K (.ref (He.ga K x)) (.ref (He.ga K y)) = some b := He.exm_ok (T.fact _ h)
theorem Txt.val (T : Txt fa fn fx K mg) {x : Str} {d : D} {g : Tg} (i : Nat) (h : fx[i]? = some (.val x d) := by rfl) : ∃ u, mg x = some u ∧ ∃ v, RelV v u ∧ ∀ ρ H, RV K g ρ H d v := by
  have c : Fx.ok K (.val x d) = true := T.more _ (List.mem_of_getElem? h)
  unfold Fx.ok at c
  dsimp only at c
  obtain ⟨_, k, n⟩ := T.ns
  split at c
  · rename_i u e
    exact ⟨u, PySem.W.mg_of k n e, valB_ok 5 d u c⟩
  · cases c
end
theorem Txt.valT {fa : List He.Fa} {fn : List He.DefD} {fx : List Fx} {K : PySem.W.Frag} {mg : Str → Option Value} (T : Txt fa fn fx K mg) {x : Str} {ds : List D} {g : Tg} (i : Nat) (h : fx[i]? = some (.val x (.tup ds)) := by rfl) : ∃ a, mg x = some (.ref a) ∧ (∃ o, K.lookup a = some o ∧ o.cls = .type "tuple" ∧ o.dict = none) ∧ ∀ ρ H, RV K g ρ H (.tup ds) (.ref a) := by
  have c : Fx.ok K (.val x (.tup ds)) = true := T.more _ (List.mem_of_getElem? h)
  unfold Fx.ok at c
  dsimp only at c
  obtain ⟨_, k, n⟩ := T.ns
  split at c
  · rename_i u e
    obtain ⟨a, o, rfl, h1⟩ := valB_tup c
    obtain ⟨v, h2, h3⟩ := valB_ok (g := g) 5 _ _ c
    have hv : v = .ref a := by
      have z := h3 [] (fun _ => none)
      rw [RV] at z
      obtain ⟨b, vs, rfl, _⟩ := z
      cases (show Value.ref a = Value.ref b from h2)
      rfl
    exact ⟨a, PySem.W.mg_of k n e, ⟨o, h1⟩, fun ρ H => hv ▸ h3 ρ H⟩
  · cases c
theorem fe_gval {X : Cx} {g : Tg} {W : WX} {pos : Pos} {x : Str} {d : D} (hg : Gl X x) (hm : ∃ u, X.mg x = some u ∧ ∃ v, RelV v u ∧ ∀ ρ H, RV X.K g ρ H d v) (hd : (x == ("__debug__" : Str)) = false := by decide) : FE X g W (.Name x pos) (eC d) := by
  obtain ⟨u, h1, v, h2, h3⟩ := hm
  exact fe_of (pe_glob hg h1 h2 hd) h3

/-! ### names by numbers -/
/-- the names of L, and behind them texts of one sign alone -/
def nmOf (L : List Str) (n : Nat) : Str := match L[n]? with
  | some s => s
  | none => ⟨Array.replicate (n + 1) 37⟩
def nmB (L : List Str) : Bool := decide L.Nodup && L.all fun s => s.cps[0]? != some 37 && decide (0 < s.cps.size)
theorem nmOf_inj {L : List Str} (h : nmB L = true) : ∀ i j, nmOf L i = nmOf L j → i = j := by
  unfold nmB at h
  rw [Bool.and_eq_true] at h
  obtain ⟨h1, h2⟩ := h
  have nd : L.Nodup := of_decide_eq_true h1
  have ne : ∀ s ∈ L, ∀ n, s ≠ ⟨Array.replicate (n + 1) 37⟩ := fun s hs n e => by
    have := List.all_eq_true.mp h2 s hs
    rw [Bool.and_eq_true] at this
    have h3 := this.1
    rw [e] at h3
    simp at h3
  intro i j e
  unfold nmOf at e
  cases zi : L[i]? with
  | none =>
    cases zj : L[j]? with
    | none =>
      rw [zi, zj] at e
      dsimp only at e
      have e2 := congrArg (fun s : Str => s.cps.size) e
      simp at e2
      exact e2
    | some t =>
      rw [zi, zj] at e
      exact absurd e.symm (ne t (List.mem_of_getElem? zj) i)
  | some s =>
    cases zj : L[j]? with
    | none =>
      rw [zi, zj] at e
      exact absurd e (ne s (List.mem_of_getElem? zi) j)
    | some t =>
      rw [zi, zj] at e
      dsimp only at e
      subst e
      obtain ⟨hi, ei⟩ := List.getElem?_eq_some_iff.mp zi
      obtain ⟨hj, ej⟩ := List.getElem?_eq_some_iff.mp zj
      exact (List.getElem_inj nd).mp (ei.trans ej.symm)
def badOf (L : List Str) (y : Str) : Option Nat := L.findIdx? fun s => decide (s = y)
theorem badOf_ok {L : List Str} {y : Str} {bad : Option Nat} (h : nmB L = true) (hb : badOf L y = bad) (h2 : (y.cps[0]? != some 37) = true) : ∀ f, nmOf L f = y → bad = some f := by
  intro f e
  subst hb
  unfold badOf
  unfold nmOf at e
  cases z : L[f]? with
  | none =>
    rw [z] at e
    dsimp only at e
    rw [← e] at h2
    simp at h2
  | some s =>
    rw [z] at e
    dsimp only at e
    subst e
    cases q : L.findIdx? fun t => decide (t = s) with
    | none =>
      have := List.findIdx?_eq_none_iff.mp q s (List.mem_of_getElem? z)
      simp at this
    | some k =>
      obtain ⟨hk, e2, _⟩ := List.findIdx?_eq_some_iff_getElem.mp q
      have e3 : L[k] = s := of_decide_eq_true e2
      have nd : L.Nodup := by
        unfold nmB at h
        rw [Bool.and_eq_true] at h
        exact of_decide_eq_true h.1
      obtain ⟨hi, ei⟩ := List.getElem?_eq_some_iff.mp z
      rw [(List.getElem_inj nd).mp (e3.trans ei.symm)]
/-- the tags: classes by their names' numbers, fields by theirs -/
def tgOf (K : PySem.W.Frag) (cl fl : List Str) : Tg := ⟨fun n => He.ga K (nmOf cl n), nmOf fl⟩
/-- (class, field): plain, and no attribute of the class -/
def naOf (l : List (Nat × Nat)) (c f : Nat) : Bool := l.contains (c, f)
def naFa (cl fl : List Str) (l : List (Nat × Nat)) : List He.Fa := (l.map fun p => He.Fa.noat (nmOf cl p.1) (nmOf fl p.2)) ++ l.map fun p => He.Fa.cls (nmOf cl p.1)
theorem na_ok {fa : List He.Fa} {fn : List He.DefD} {fx : List Fx} {K : PySem.W.Frag} {mg : Str → Option Value} (T : Txt fa fn fx K mg) {cl fl : List Str} {l : List (Nat × Nat)} (h : ∀ f ∈ naFa cl fl l, f ∈ fa) : NaOk K (tgOf K cl fl) (naOf l) := by
  intro c f e
  have hm : (c, f) ∈ l := by simpa [naOf] using e
  exact ⟨T.cls (h _ (List.mem_append_right _ (List.mem_map.mpr ⟨_, hm, rfl⟩))), T.noat (h _ (List.mem_append_left _ (List.mem_map.mpr ⟨_, hm, rfl⟩)))⟩
/-- which clauses name which classes -/
def sbOf (l : List (Nat × Bool)) (c : Nat) : Option Bool := l.lookup c
def sbFa (cl : List Str) (cc : Nat) (l : List (Nat × Bool)) : List He.Fa := l.map fun p => He.Fa.exm (nmOf cl p.1) (nmOf cl cc) p.2
theorem lookup_memN {β : Type} {a : Nat} {b : β} : ∀ {l : List (Nat × β)}, l.lookup a = some b → (a, b) ∈ l
  | [], h => by cases h
  | (k, v) :: r, h => by
    rw [List.lookup_cons] at h
    cases z : a == k with
    | true =>
      rw [z] at h
      cases h
      rw [beq_iff_eq.mp z]
      exact List.mem_cons_self
    | false =>
      rw [z] at h
      exact List.mem_cons_of_mem _ (lookup_memN h)
theorem sb_ok {fa : List He.Fa} {fn : List He.DefD} {fx : List Fx} {K : PySem.W.Frag} {mg : Str → Option Value} (T : Txt fa fn fx K mg) {cl fl : List Str} {cc : Nat} {l : List (Nat × Bool)} (h : ∀ f ∈ sbFa cl cc l, f ∈ fa) :
    ∀ c b, sbOf l c = some b → PySem.W.exmOne K (.ref ((tgOf K cl fl).ca c)) (.ref ((tgOf K cl fl).ca cc)) = some b := fun c b e => T.exm (h _ (List.mem_map.mpr ⟨_, lookup_memN e, rfl⟩))
theorem fnInj_of {K : PySem.W.Frag} {cl fl : List Str} (h : nmB fl = true) : FnInj (tgOf K cl fl) := nmOf_inj h

/-! ### isinstance of the exception that a suite holds -/
def eIsE (a0 : Addr) (i c : Nat) (tab : List (Nat × Bool)) : Ev → M D := fun env G => match env[i]? with
  | some (some (.exc a)) => if a = a0 then (match sbOf tab c with
    | some b => .ok (.bl b) G
    | none => .no) else .no
  | _ => .no
section
variable {X : Cx} {g : Tg} {W : WX} {pos p p2 q2 : Pos}
theorem call_isX {a D : Addr} {oe : Obj} (hp : (a, oe) ∈ X.pn) (C : ExcC X.K D) (hz : Zc (.ref D) none oe) (hf : ∃ vs, oe.data = .fields vs) : CallR X (.builtin "isinstance") (rIsE X.K D a) := by
  intro pins s σ H xs us Q I r h
  obtain ⟨c, cv, b, rfl, hcv, e, q⟩ := h
  obtain ⟨u1, u2, rfl, r1, r2⟩ := vals2 r
  cases (show u1 = Value.ref a from r1)
  cases hcv _ r2
  obtain ⟨vs, hv⟩ := hf
  have J : PySem.W.InstAt s.heap a oe D none := by
    have hget := (I.pin (a, oe) (List.mem_append_left _ hp)).1
    obtain ⟨oc, od, oda, osl⟩ := oe
    obtain ⟨h1, h2⟩ := hz
    dsimp only at h1 h2 hv
    subst h1 h2 hv
    exact ⟨hget, rfl, rfl, trivial⟩
  exact PySem.W.kia_one (PySem.W.handS_kitx_exc C.hg C.hk C.hs C.hd C.ha C.hn C.ht C.hm) I.kIn J e (fun z => nomatch z) fun tk => ⟨.bl b, H, I.tok tk, rfl, q⟩
/-- isinstance(e, T): T a class, by its value -/
theorem fe_isE {x y : Str} {a0 : Addr} {oe : Obj} {i c : Nat} {tab : List (Nat × Bool)} {v : V} {u : Value} (hp : (a0, oe) ∈ X.pn) (C : ExcC X.K (g.ca c)) (hz : Zc (.ref (g.ca c)) none oe) (hf : ∃ vs, oe.data = .fields vs)
    (hN : X.N[i]? = some x) (hv : Vis X.env.scope x) (hg : Gl X "isinstance") (hm : X.mg "isinstance" = none) (hT : PE X (.Name y q2) (tC v)) (hr : ∀ w, RelV v w → w = u) (htab : ∀ b, sbOf tab c = some b → PySem.W.kitOne X.K (.ref (g.ca c)) u = some b)
    (hd : (x == ("__debug__" : Str)) = false := by decide) (hcd : (x == ("__classdict__" : Str)) = false := by decide)
    (q0 : starEach [.Name x p2, .Name y q2] X.env = (false, eval (.Name x p2) X.env) :: starEach [.Name y q2] X.env := by rfl) (q1 : starEach [.Name y q2] X.env = (false, eval (.Name y q2) X.env) :: starEach [] X.env := by rfl) (q3 : (backTo pos (starEach [.Name y q2] X.env)).any (·.1) = false := by rfl) :
    FE X g W (.Call (.Name "isinstance" p) [.Name x p2, .Name y q2] [] pos) (eIsE a0 i c tab) := by
  refine PE.imp (pe_callB (call_isX hp C hz hf) hg hm (by decide +kernel) (pa_cons (pe_var hN hv hd hcd) (pa_cons hT pa_nil q1) q0) (by decide) (by decide) q0 q3) ?_
  rintro σ H Q ⟨ρ, env, G, R, E, h⟩
  unfold eIsE at h
  split at h
  · rename_i a e
    split at h
    · rename_i ea
      subst ea
      split at h
      · rename_i b eb
        obtain ⟨w, e1, r1⟩ := E.get e
        cases (show w = .ref a from r1)
        exact ⟨_, e1, v, u, b, rfl, hr, htab b eb, h.now R _ rfl⟩
      · exact h.elim
    · exact h.elim
  · exact h.elim
end

/-! ### the end -/
theorem cx_none {P : Program} {w : World} {outer : List Env} {H : Hp} {s : Shared} {e : Value} {s' : Shared} (h : L2N.CX P w outer H s (fun _ _ _ => False) e s') : False := by
  obtain ⟨_, _, _, _, _, _, _, _, _, _, _, _, z⟩ := h
  exact z
theorem walk_mi {l : PySem.W.OpenLaw} {n k : Nat} {q : Program} {loose : List Str} {XP : (Str → Option Value) → Heap → Prop} {YP : World → Heap → Prop} {d : DefRec} {x : Str} {m : List D → M D}
    (hn : l.most = some n) (hn2 : n ≤ sizeLine) (hdf : d.params.defaults = []) (hr : Room k callerA)
    (F : ∀ (w : World) (mg : Str → Option Value) (fa : Addr) (h : Heap), YP w h → h.Ns mainGlobals mg → mg d.name = some (.ref fa) →
      ∃ (K : PySem.W.Frag) (g : Tg) (fd : FuncData), K.In h ∧ (∀ (s : Shared) (u : Value), BindsTo s fd ⟨[u], []⟩ [(x, u)]) ∧ ∀ base : Heap, K.In base → base.Ns mainGlobals mg → FnOk l.prog w K mg base (L2N.CX l.prog w) k fa fd [x] (spF K g m))
    (law : ∀ ns : List Int, ns.length ≤ n → (∀ z ∈ ns, Builtin.Int.intBits z ≤ 1048576) → ∃ G, m [.rol (ns.map D.int)] ⟨0, fun _ => .lst []⟩ = .ok (.bl true) G) :
    PySem.W.WalkO q loose XP YP l.row.toRowW d [] (fun f vs => PySem.call f vs) := by
  refine Att.attach_callB hn hdf fun w s₀ s₁ mg mb fa o pm cd doc a vs ns G Y ho hd hcd hmg hobj hints hlen hbits hg => ?_
  obtain ⟨K, g, fd, KX, hb, hF⟩ := F w mg fa _ Y G.T.g hmg
  refine law_call KX G.T.g G.T.b G.T.builtins G.T.nolimit hg hobj hints (Nat.le_trans hlen hn2) hr hF hb (fun H hO hS => ?_) fun H e s' h => cx_none h
  obtain ⟨G1, e⟩ := law ns hlen hbits
  have sr : SqR K H a (ns.map V.int) := by
    rcases hS with (h | ⟨ob, h⟩) | h
    · rcases hO a with z | ⟨o2, xs, z⟩
      · rw [z] at h; cases h
      · rw [z] at h; cases h
    · exact .inl ⟨ob, h⟩
    · exact .inr h
  have ri : ∀ l : List Int, RVs K g [] H (l.map D.int) (l.map V.int) := fun l => by
    induction l with
    | nil => exact .nil
    | cons i l ih => exact .cons rfl ih
  refine ⟨[], ⟨0, fun _ => .lst []⟩, [.rol (ns.map D.int)], ⟨rfl, List.nodup_nil, fun i b e => by simp at e⟩, .cons (by rw [RV]; exact ⟨a, _, rfl, sr, ri ns⟩) .nil, ?_⟩
  rw [e]
  exact fun ρ' H' x R' v r => r
end Mi
/-! F, part 9: the rules as the printed texts use them. -/
namespace Mi
open PySem PySem.Spec PyProof.Rows L2

/-! ### names: facts of a scope, shown once -/
def visI (sc : Scope) (N : List Str) (is : List Nat) : Bool := is.all fun i => match N[i]? with
  | some x => (match sc.names.lookup x with
    | some .local => true
    | some .cell => true
    | some .free => true
    | _ => false) && (!(x == ("__debug__" : Str)) && !(x == ("__classdict__" : Str)))
  | none => false
def stoI (sc : Scope) (fn : Str → Bool) (N : List Str) (is : List Nat) : Bool := is.all fun i => match N[i]? with
  | some x => (match sc.names.lookup x with
    | some .local => true
    | some .cell => fn x
    | _ => false)
  | none => false
def glI (sc : Scope) (L : List Str) : Bool := L.all fun x => (match sc.names.lookup x with
    | some .globalImplicit => true
    | _ => false) && (!(x == ("__debug__" : Str)) && !decide (x = "__name__"))
theorem all_at {is : List Nat} {p : Nat → Bool} {i : Nat} (h : is.all p = true) (hi : is.contains i = true) : p i = true := List.all_eq_true.mp h i (List.contains_iff_mem.mp hi)
structure GlN (X : Cx) (x : Str) : Prop where
  gl : Gl X x
  nd : (x == ("__debug__" : Str)) = false
  nn : x ≠ "__name__"
section
variable {X : Cx} {g : Tg} {W : WX} {pos pos' tpos p p2 np apos cpos : Pos} {a b e o : Expr} {es : List Expr} {ma mb mo mk mz : Ev → M D} {ms : Ev → M (List D)} {st b₀ : Stmt} {rest sa sb body suite : List Stmt} {m n m' : Sm} {x y : Str} {f C : Addr} {mm : List D → M D} {is : List Nat} {L : List Str}
theorem vis_of {i : Nat} (V : visI X.env.scope X.N is = true) (hi : is.contains i = true) (hN : X.N[i]? = some x) : Vis X.env.scope x ∧ (x == ("__debug__" : Str)) = false ∧ (x == ("__classdict__" : Str)) = false := by
  have h := all_at V hi
  rw [hN] at h
  dsimp only at h
  rw [Bool.and_eq_true, Bool.and_eq_true] at h
  obtain ⟨h1, h2, h3⟩ := h
  refine ⟨?_, by simpa using h2, by simpa using h3⟩
  split at h1
  · exact .inl (by assumption)
  · exact .inr (.inl (by assumption))
  · exact .inr (.inr (by assumption))
  · cases h1
theorem sto_of {i : Nat} (V : stoI X.env.scope X.fn X.N is = true) (hi : is.contains i = true) (hN : X.N[i]? = some x) : Loc X.env.scope x ∧ (X.fn x = true ∨ X.env.scope.names.lookup x = some .local) := by
  have h := all_at V hi
  rw [hN] at h
  dsimp only at h
  split at h
  · exact ⟨.inl (by assumption), .inr (by assumption)⟩
  · exact ⟨.inr (by assumption), .inl h⟩
  · cases h
theorem glx {j : Nat} (V : glI X.env.scope L = true) (hj : L[j]? = some x) : GlN X x := by
  have h := List.all_eq_true.mp V x (List.mem_of_getElem? hj)
  rw [Bool.and_eq_true, Bool.and_eq_true] at h
  obtain ⟨h1, h2, h3⟩ := h
  refine ⟨?_, by simpa using h2, by simpa using h3⟩
  split at h1
  · assumption
  · cases h1
theorem fe_vr (i : Nat) (V : visI X.env.scope X.N is = true) (hi : is.contains i = true := by rfl) (hN : X.N[i]? = some x := by rfl) : FE X g W (.Name x pos) (eVar i) :=
  let ⟨h1, h2, h3⟩ := vis_of V hi hN; fe_var i hN h1 h2 h3
theorem fg_nm (i : Nat) (nd : X.N.Nodup) (V : stoI X.env.scope X.fn X.N is = true) (hi : is.contains i = true := by rfl) (hN : X.N[i]? = some x := by rfl) : FG X g (.Name x pos) (gmN i) [i] :=
  let ⟨h1, h2⟩ := sto_of V hi hN; fg_name i nd hN h1 h2
theorem fs_st (i : Nat) (nd : X.N.Nodup) (V : stoI X.env.scope X.fn X.N is = true) (ha : FE X g W a ma) (hi : is.contains i = true := by rfl) (hN : X.N[i]? = some x := by rfl) (hs : swapsWith a (some (.Name x pos')) pos.line X.env = pure false := by rfl) : FS X g W (.Assign [.Name x pos'] a pos) (sAsg (gmN i) ma) :=
  let ⟨h1, h2⟩ := sto_of V hi hN; fs_set i nd hN h1 h2 ha hs
theorem fs_au (i : Nat) {op : Operator} {h2 : O2} (nd : X.N.Nodup) (V : stoI X.env.scope X.fn X.N is = true) (hop : OpF X g (inplaceOp op) h2) (hv : FE X g W a ma) (hi : is.contains i = true := by rfl) (hN : X.N[i]? = some x := by rfl) : FS X g W (.AugAssign (.Name x pos') op a pos) (sAug i h2 ma) :=
  let ⟨h1, h3⟩ := sto_of V hi hN; fs_aug i nd hN h1 h3 hop hv
theorem fs_fk {tg : Expr} {t : Tm} {ws : List Nat} (j : Nat) (hp : PassesOwn (model X.prog X.w) X.A X.env X.xe) (hc : X.calm = true) (V : visI X.env.scope X.N is = true) (hg : FG X g tg t ws) (hb : FSs X g W body m) (hi : is.contains j = true := by rfl) (hN : X.N[j]? = some x := by rfl)
    (hs : ∀ y, foldedSetIterable (.Name x p) X.env y = pure y := by intro _; rfl) : FS X g W (.For tg (.Name x p) body [] pos) (sForK j t m) :=
  let ⟨h1, h2, h3⟩ := vis_of V hi hN; fs_forK hp hc hN h1 hg hb h2 h3 hs

/-! ### global names -/
theorem fe_gi {i : Int} (G : GlN X x) (hm : ∃ t, X.mg x = some (.int i t)) : FE X g W (.Name x pos) (eC (.int i)) := fe_gint G.gl hm G.nd
theorem fe_gs {i : Str} (G : GlN X x) (hm : ∃ t, X.mg x = some (.str i t)) : FE X g W (.Name x pos) (eC (.str i)) := fe_gstr G.gl hm G.nd
theorem fe_gv {d : D} (G : GlN X x) (hm : ∃ u, X.mg x = some u ∧ ∃ v, RelV v u ∧ ∀ ρ H, RV X.K g ρ H d v) : FE X g W (.Name x pos) (eC d) := fe_gval G.gl hm G.nd
theorem fe_ca (F : Cal X f (spF X.K g mm)) (G : GlN X x) (hm : X.mg x = some (.ref f)) (tk : L2N.Takes X W) (ha : FA X g W (e :: es) ms)
    (q1 : starEach (e :: es) X.env = (false, eval e X.env) :: starEach es X.env := by rfl) (q2 : (backTo pos (starEach es X.env)).any (·.1) = false := by rfl) :
    FE X g W (.Call (.Name x p) (e :: es) [] pos) (eCall mm ms) := fe_call F G.gl hm tk ha G.nd q1 q2
theorem fe_ca0 (F : Cal X f (spF X.K g mm)) (G : GlN X x) (hm : X.mg x = some (.ref f)) (tk : L2N.Takes X W) : FE X g W (.Call (.Name x p) [] [] pos) (eCall mm aNil) := fe_call0 F G.gl hm tk G.nd
theorem fe_mk {c k : Nat} (M : Mk X.K (g.ca c) f) (F : FnR X.prog X.w X.K X.mg X.base k f (spF X.K g mm)) (hr : Room (k + 1) X.A) (tk : L2N.Takes X W) (G : GlN X x) (hm : X.mg x = some (.ref (g.ca c))) (ha : FA X g W (e :: es) ms)
    (q1 : starEach (e :: es) X.env = (false, eval e X.env) :: starEach es X.env := by rfl) (q2 : (backTo pos (starEach es X.env)).any (·.1) = false := by rfl) :
    FE X g W (.Call (.Name x p) (e :: es) [] pos) (eMake c mm ms) := fe_make M F hr tk G.gl hm ha G.nd q1 q2
theorem fe_mk0 {c k : Nat} (M : Mk X.K (g.ca c) f) (F : FnR X.prog X.w X.K X.mg X.base k f (spF X.K g mm)) (hr : Room (k + 1) X.A) (tk : L2N.Takes X W) (G : GlN X x) (hm : X.mg x = some (.ref (g.ca c))) :
    FE X g W (.Call (.Name x p) [] [] pos) (eMake c mm aNil) := fe_make0 M F hr tk G.gl hm G.nd
theorem fs_ra {c j : Nat} {z : Str} (hc : X.calm = true) (tk : L2N.Takes X W) (hx : ExcOk X.K (g.ca c)) (G : GlN X x) (gC : X.mg x = some (.ref (g.ca c))) :
    FS X g W (.Raise (some (.Call (.Name x p) [.Constant (.str z) j p2] [] pos)) none pos') (sRaise c) := fs_raise hc tk hx gC G.gl G.nd
theorem names_of {u : Value} (G : GlN X x) (hm : X.mg x = some u) : Names X x u := ⟨G.gl, G.nd, .inl hm⟩
/-! ### built-ins by name -/
theorem bt_len : bootBuiltins "len" = some (.builtin "len") := by decide +kernel
theorem bt_min : bootBuiltins "min" = some (.builtin "min") := by decide +kernel
theorem bt_max : bootBuiltins "max" = some (.builtin "max") := by decide +kernel
theorem bt_sum : bootBuiltins "sum" = some (.builtin "sum") := by decide +kernel
theorem bt_all : bootBuiltins "all" = some (.builtin "all") := by decide +kernel
theorem bt_any : bootBuiltins "any" = some (.builtin "any") := by decide +kernel
theorem bt_int : bootBuiltins "int" = some (.type "int") := by decide +kernel
theorem bt_str : bootBuiltins "str" = some (.type "str") := by decide +kernel
theorem bt_list : bootBuiltins "list" = some (.type "list") := by decide +kernel
theorem bt_tuple : bootBuiltins "tuple" = some (.type "tuple") := by decide +kernel
theorem bt_bool : bootBuiltins "bool" = some (.type "bool") := by decide +kernel
theorem bt_ValueError : bootBuiltins "ValueError" = some (.type "ValueError") := by decide +kernel
theorem bt_dict : bootBuiltins "dict" = some (.type "dict") := by decide +kernel
variable {idn T : String} {ff : O1}
theorem fe_bb (hv : bootBuiltins x = some (.builtin idn)) (hc : CalF X g (.builtin idn) ff) (G : GlN X x) (hm : X.mg x = none) (ha : FA X g W (e :: es) ms)
    (q1 : starEach (e :: es) X.env = (false, eval e X.env) :: starEach es X.env := by rfl) (q2 : (backTo pos (starEach es X.env)).any (·.1) = false := by rfl) : FE X g W (.Call (.Name x p) (e :: es) [] pos) (eB ff ms) := fe_blt hc G.gl hm hv ha G.nn G.nd q1 q2
theorem fe_bt (hv : bootBuiltins x = some (.type T)) (hc : CalF X g (.type T) ff) (G : GlN X x) (hm : X.mg x = none) (ha : FA X g W (e :: es) ms)
    (q1 : starEach (e :: es) X.env = (false, eval e X.env) :: starEach es X.env := by rfl) (q2 : (backTo pos (starEach es X.env)).any (·.1) = false := by rfl) : FE X g W (.Call (.Name x p) (e :: es) [] pos) (eB ff ms) := fe_bty hc G.gl hm hv ha G.nn G.nd q1 q2
theorem fe_is (k : Nat) (hv : bootBuiltins y = some (.type (tyNm k))) (G : GlN X "isinstance") (hm : X.mg "isinstance" = none) (G2 : GlN X y) (hm2 : X.mg y = none) (ha : FE X g W a ma) (hk : 0 < k ∧ k < 7 := by decide)
    (q0 : starEach [a, .Name y p2] X.env = (false, eval a X.env) :: starEach [.Name y p2] X.env := by rfl) (q1 : starEach [.Name y p2] X.env = (false, eval (.Name y p2) X.env) :: starEach [] X.env := by rfl) (q2 : (backTo pos (starEach [.Name y p2] X.env)).any (·.1) = false := by rfl) :
    FE X g W (.Call (.Name "isinstance" p) [a, .Name y p2] [] pos) (eIsi k ma) := fe_isi k hk G.gl hm G2.gl hm2 hv ha G2.nn G2.nd q0 q1 q2
/-! ### methods of built-ins by name -/
theorem fe_append (ho : FE X g W o mo) (ha : FA X g W [e] ms)
    (q1 : attributeBase o "append" X.env (eval o X.env) = eval o X.env := by rfl)
    (q2 : ((backTo cpos (starEach [e] X.env)).all (fun x => !x.1) && (backToKw cpos (keywordEach [] X.env)).all (fun x => x.1.isSome)
      && decide (([e] : List Expr).length + ([] : List Keyword).length + (if ([] : List Keyword).isEmpty then 0 else 1) < 30)) = true := by rfl)
    (q3 : (apos.endLine == cpos.line) = true := by rfl) (q4 : starEach [e] X.env = (false, eval e X.env) :: starEach [] X.env := by rfl) (q5 : (backTo cpos (starEach [] X.env)).any (·.1) = false := by rfl) :
    FE X g W (.Call (.Attribute o "append" apos) [e] [] cpos) (eMt mAppend mo ms) := fe_lmt PySem.F.slot_list_append PySem.F.type_list_append mf_append ho ha q1 q2 q3 q4 q5
theorem fe_extend (ho : FE X g W o mo) (ha : FA X g W [e] ms)
    (q1 : attributeBase o "extend" X.env (eval o X.env) = eval o X.env := by rfl)
    (q2 : ((backTo cpos (starEach [e] X.env)).all (fun x => !x.1) && (backToKw cpos (keywordEach [] X.env)).all (fun x => x.1.isSome)
      && decide (([e] : List Expr).length + ([] : List Keyword).length + (if ([] : List Keyword).isEmpty then 0 else 1) < 30)) = true := by rfl)
    (q3 : (apos.endLine == cpos.line) = true := by rfl) (q4 : starEach [e] X.env = (false, eval e X.env) :: starEach [] X.env := by rfl) (q5 : (backTo cpos (starEach [] X.env)).any (·.1) = false := by rfl) :
    FE X g W (.Call (.Attribute o "extend" apos) [e] [] cpos) (eMt mExtend mo ms) := fe_lmt PySem.F.slot_list_extend PySem.F.type_list_extend mf_extend ho ha q1 q2 q3 q4 q5
theorem fe_clear (ho : FE X g W o mo) (q1 : attributeBase o "clear" X.env (eval o X.env) = eval o X.env := by rfl) (q2 : (apos.endLine == cpos.line) = true := by rfl) :
    FE X g W (.Call (.Attribute o "clear" apos) [] [] cpos) (eMt mClear mo aNil) := fe_lmt0 PySem.F.slot_list_clear PySem.F.type_list_clear mf_clear ho q1 q2
theorem fe_g1 (hu : X.A.units + 1 < cLine) (ho : FE X g W o mo) (hk : FE X g W e mk) (m1 : attributeBase o "get" X.env (eval o X.env) = eval o X.env := by rfl)
    (m2 : ((backTo cpos (starEach [e] X.env)).all (fun x => !x.1) && (backToKw cpos (keywordEach [] X.env)).all (fun x => x.1.isSome)
      && decide (([e] : List Expr).length + ([] : List Keyword).length + (if ([] : List Keyword).isEmpty then 0 else 1) < 30)) = true := by rfl)
    (m3 : (apos.endLine == cpos.line) = true := by rfl) (m4 : backTo cpos (starEach [e] X.env) = [(false, eval e X.env)] := by rfl) : FE X g W (.Call (.Attribute o "get" apos) [e] [] cpos) (eGet1 mo mk) := fe_get1 hu ho hk ⟨m1, m2, m3, m4⟩
theorem fe_g2 {e2 : Expr} (hu : X.A.units + 1 < cLine) (ho : FE X g W o mo) (hk : FE X g W e mk) (hz : FE X g W e2 mz) (m1 : attributeBase o "get" X.env (eval o X.env) = eval o X.env := by rfl)
    (m2 : ((backTo cpos (starEach [e, e2] X.env)).all (fun x => !x.1) && (backToKw cpos (keywordEach [] X.env)).all (fun x => x.1.isSome)
      && decide (([e, e2] : List Expr).length + ([] : List Keyword).length + (if ([] : List Keyword).isEmpty then 0 else 1) < 30)) = true := by rfl)
    (m3 : (apos.endLine == cpos.line) = true := by rfl) (m4 : backTo cpos (starEach [e, e2] X.env) = [(false, eval e X.env), (false, eval e2 X.env)] := by rfl) : FE X g W (.Call (.Attribute o "get" apos) [e, e2] [] cpos) (eGet2 mo mk mz) := fe_get2 hu ho hk hz ⟨m1, m2, m3, m4⟩
/-! ### - a -/
def opNeg : D → Gh → Option (D × Gh) := fun x G => match x with
  | .int i => some (.int (-i), G)
  | _ => none
theorem fe_neg (ha : FE X g W a ma) : FE X g W (.UnaryOp .USub a pos) (eUn opNeg ma) := by
  refine fe_un (fun pins s σ H x v Q I r h => ?_) ha
  obtain ⟨ρ, G, d, R, rd, d', G', e, k⟩ := h
  unfold opNeg at e
  split at e
  · cases e
    cases (show x = .int _ from rd)
    exact un_neg pins s σ H _ v Q I r ⟨_, rfl, k _ ρ H (.refl _ _) R rfl⟩
  · cases e
/-! ### nothing runs -/
theorem fss_never : FSs X g W body sNever := ⟨fun pins s σ H D I h => by
  obtain ⟨ρ, env, G, R, E, h⟩ := h
  exact h.elim⟩
theorem takesF {s : Shared} {H : Hp} {sc : Scope} {ce : Env} {fp : List Addr} : L2N.Takes (X.blk s H sc ce fp) WF := fun _ _ x => by
  obtain ⟨_, _, _, _, _, _, _, _, _, _, _, _, _, _, _, _, z⟩ := x
  exact z.elim
theorem takesS {a0 : Addr} {pn : List (Addr × Obj)} : L2N.Takes (X.suite a0 pn) WF := fun _ _ x => by
  obtain ⟨_, _, _, _, _, _, _, _, _, _, _, _, _, _, _, _, z⟩ := x
  exact z.elim
end
end Mi
/-! F, part 10: the def that is asked of the exception an except suite holds. -/
namespace Mi
open PySem PySem.Spec PyProof.Rows L2

/-- f keeps its promise where p's object is the exception that is handled -/
structure FnQ (p : Addr × Obj) (P : Program) (w : World) (K : PySem.W.Frag) (mg : Str → Option Value) (base : Heap) (k : Nat) (f : Addr) (fd : FuncData) (ps : List Str) (sp : Sp) : Prop where
  len : ∀ vs H Q E, sp vs H Q E → vs.length = ps.length
  run : ∀ (A : Around) (outer : List Env) (s : Shared) (H : Hp) (args : Args) (us : List Value) (vs : List V) (Q : VK) (E : XK),
    L2H.RoomH k A → L2H.Hot1 A p → L2H.PinOk outer H s p → Env0 P w K mg base A outer s H → BindsTo s fd args (ps.zip us) → Vals vs us → sp vs H Q E →
      codeAny (model P w) A (.call (.ref f) args) (CR (L2N.CX P w) outer P w H s Q E) s
theorem fnQ_of {p : Addr × Obj} {P : Program} {w : World} {K : PySem.W.Frag} {mg : Str → Option Value} {base : Heap} {k : Nat} {f : Addr} {nme qul : Str} {prs : Arguments} {bdy : List Stmt} {scp : Scope} {fd : FuncData} {N ps : List Str} {sp : Sp}
    (F : FunD K nme qul prs bdy scp [] [] f fd) (S : FnScope N ps scp) (len : ∀ vs H Q E, sp vs H Q E → vs.length = ps.length)
    (hbody : ∀ (cdv : Value) (A : Around) (outer : List Env) (s : Shared) (H : Hp) (vs : List V) (Q : VK) (E : XK), L2H.Hot1 A p → L2H.RoomH k (A.deeper (envOfC qul scp s.heap.objs.size f cdv)) → sp vs H Q E →
      ∃ t, PSs (L2H.cxH (L2N.CX P w) P w K mg base N qul scp f cdv A outer s H E p) bdy t ∧ t { nx := fun _ H' => Q .non H', rt := Q } (L2.start N vs) H) :
    FnQ p P w K mg base (k + 1) f fd ps sp := by
  obtain ⟨oc, od, dV, kV, doc, pm, an, cdv, ct, osl, rfl, lk, hcd, _, _⟩ := F.ex
  refine ⟨len, fun A outer s H args us vs Q E room hot pin env bnd rel prm => ?_⟩
  have hlen := len _ _ _ _ prm
  have inH : K.In s.heap := env.mod.kin.keeps fun b o q => (env.bs b o q).1
  have noL : s.heap.NoLimit := env.mod.nolimit.keeps fun b o q => (env.bs b o q).1
  have kinds : ∀ y ∈ ps.zip us, scp.names.lookup y.1 = some .local ∨ (scp.names.lookup y.1 = some .cell ∧ ((cellsFrom (s.heap.objs.size + 1) scp.names []).lookup y.1).isSome = true) := by
    rintro ⟨n, v⟩ hy
    exact (S.par n (List.of_mem_zip hy).1).imp id fun q => ⟨q, PySem.W.cellsFrom_some _ _ _ (.inl q)⟩
  refine codeAny_call_function room.depth (inH _ _ lk) rfl S.co S.gen rfl (PySem.W.codeRec_of inH hcd) (bnd _ _ _ _ ?_)
  refine wpAny_newFunctionEnv_cells S.kind kinds fun en hen s1 xx => ?_
  subst hen
  refine ⟨noL.keeps xx.toInCall.keep, codeAny_func ?_⟩
  obtain ⟨t, hder, hread⟩ := hbody cdv A outer s H vs Q E hot (room.deeper _) prm
  have I0 := L2H.inv_startH (CX := L2N.CX P w) (E := E) S pin env hlen rel xx
  refine wpAny_mono (hder.run [] s1 (L2.start N vs) H _ I0 hread) (fun fl s' hs => ?_) fun e s' hs => hs
  have ends : ∀ {σ' : St} {H' : Hp} {v : V} {u : Value}, Inv (L2H.cxH (L2N.CX P w) P w K mg base N qul scp f cdv A outer s H E p) [] σ' H' s' → RelV v u → Q v H' → CE outer P w H s Q u s' :=
    fun {σ' H' v u} J rv q => ⟨v, H', J.os, J.bare, J.base, J.hok, rv, q⟩
  cases fl with
  | ret u => obtain ⟨v, σ', H', J, rv, q⟩ := hs; exact ends J rv q
  | next => obtain ⟨σ', H', J, q⟩ := hs; exact ends (v := V.non) (u := Value.none) J rfl q
  | brk => obtain ⟨_, _, _, q⟩ := hs; exact q.elim
  | cont => obtain ⟨_, _, _, q⟩ := hs; exact q.elim
/-- as called from a context that holds p -/
theorem FnQ.cal {X : Cx} {p : Addr × Obj} {k : Nat} {f : Addr} {fd : FuncData} {ps : List Str} {sp : Sp} (F : FnQ p X.prog X.w X.K X.mg X.base k f fd ps sp) (hr : L2H.RoomH k X.A) (hot : L2H.Hot1 X.A p) (hp : p ∈ X.pn) (hb : Binds X.K fd ps []) (kp : PySem.W.keepIn X.K (.ref f) = true) : Cal X f sp := by
  refine ⟨kp, fun pins σ H s Q us vs E hx I r h => ?_⟩
  have hl : us.length = ps.length := by rw [← r.length]; exact F.len _ _ _ _ h
  have b := hb s us I.kIn (by rw [List.append_nil]; exact hl)
  rw [List.append_nil] at b
  have P1 := I.pin p (List.mem_append_left _ hp)
  have hpin : L2H.PinOk X.stack H s p := ⟨P1.1, P1.2.1, fun hm => (List.mem_cons.mp (I.stkSub p.1 hm)).elim P1.2.2.1 P1.2.2.2.1, P1.2.2.2.2⟩
  refine wpAny_call (codeAny_mono (F.run X.A X.stack s H ⟨us, []⟩ us vs Q E hr hot hpin I.env0 b r h) fun rr s' hq => ?_)
  cases rr with
  | error e => exact hx pins H s e s' I hq
  | ok fl =>
    cases fl with
    | ret u => exact I.after hq
    | next => exact hq.elim
    | brk => exact hq.elim
    | cont => exact hq.elim
/-- all in one -/
structure FnRQ (p : Addr × Obj) (P : Program) (w : World) (K : PySem.W.Frag) (mg : Str → Option Value) (base : Heap) (k : Nat) (f : Addr) (sp : Sp) : Prop where
  ex : ∃ fd ps, FnQ p P w K mg base k f fd ps sp ∧ Binds K fd ps []
  kp : PySem.W.keepIn K (.ref f) = true
theorem FnRQ.cal {X : Cx} {p : Addr × Obj} {k : Nat} {f : Addr} {sp : Sp} (F : FnRQ p X.prog X.w X.K X.mg X.base k f sp) (hr : L2H.RoomH k X.A) (hot : L2H.Hot1 X.A p) (hp : p ∈ X.pn) : Cal X f sp := by
  obtain ⟨fd, ps, q, b⟩ := F.ex
  exact q.cal hr hot hp b F.kp
theorem fnRQ {p : Addr × Obj} {P : Program} {w : World} {K : PySem.W.Frag} {mg : Str → Option Value} {base : Heap} {g : Tg} {x qual : Str} {params : Arguments} {body : List Stmt} {scope : Scope} {f : Addr} {N ps : List Str} {k : Nat} {mb : Sm}
    (F : ∃ fd, FunD K x qual params body scope [] [] f fd) (S : FnScope N ps scope)
    (hb : ∀ (kV doc pm : Value) (an : Option Addr) (cdv ct : Value) (us : List Value), us.length = ps.length → bindArgs (PySem.W.fnOf x qual params body scope .none kV doc pm an cdv ct) ⟨us, []⟩ = pure (ps.zip us))
    (hbody : ∀ (cdv : Value) (A : Around) (outer : List Env) (s : Shared) (H : Hp) (E : XK), L2H.Hot1 A p → L2H.RoomH k (A.deeper (envOfC qual scope s.heap.objs.size f cdv)) →
      FSs (L2H.cxH (L2N.CX P w) P w K mg base N qual scope f cdv A outer s H E p) g (fun c d _ H => E c d H) body mb) : FnRQ p P w K mg base (k + 1) f (spF K g (mFun ps.length N.length mb)) := by
  obtain ⟨fd, F⟩ := F
  exact ⟨⟨fd, ps, fnQ_of F S (fun vs H Q E h => spF_len h) fun cdv A outer s H vs Q E hot hr h => ⟨_, hbody cdv A outer s H E hot hr, fun_start h⟩, F.bindsN hb⟩, F.kp⟩
theorem hot_suite {X : Cx} {a : Addr} {oe : Obj} {pn : List (Addr × Obj)} {c : Value} {d : Option Addr} (z : L2N.Zn c d oe) (v : ∃ vs, oe.data = .fields vs) : L2H.Hot1 (X.suite a ((a, oe) :: pn)).A (a, oe) := by
  obtain ⟨vs, e⟩ := v
  exact ⟨rfl, vs, e, z.2.2 vs e⟩
section
variable {X : Cx} {g : Tg} {W : WX} {pos p p2 q2 : Pos} {x y : Str} {is : List Nat}
theorem pe_no {e : Expr} {t : TE} (h : ∀ σ H Q, ¬ t σ H Q) : PE X e t := ⟨fun pins s σ H Q I q => (h σ H Q q).elim⟩
/-- isinstance(e, T), T an own class -/
theorem fe_ix1 {a0 : Addr} {oe : Obj} {i c cy : Nat} {tab : List (Nat × Bool)} (hp : (a0, oe) ∈ X.pn) (hz : L2N.Zn (.ref (g.ca c)) none oe) (hf : ∃ vs, oe.data = .fields vs) (V : visI X.env.scope X.N is = true) (G : GlN X "isinstance") (hm : X.mg "isinstance" = none) (G2 : GlN X y) (hm2 : X.mg y = some (.ref (g.ca cy)))
    (C : ∀ b, sbOf tab c = some b → ExcC X.K (g.ca c)) (htab : ∀ b, sbOf tab c = some b → PySem.W.kitOne X.K (.ref (g.ca c)) (.ref (g.ca cy)) = some b)
    (hi : is.contains i = true := by rfl) (hN : X.N[i]? = some x := by rfl)
    (q0 : starEach [.Name x p2, .Name y q2] X.env = (false, eval (.Name x p2) X.env) :: starEach [.Name y q2] X.env := by rfl) (q1 : starEach [.Name y q2] X.env = (false, eval (.Name y q2) X.env) :: starEach [] X.env := by rfl) (q3 : (backTo pos (starEach [.Name y q2] X.env)).any (·.1) = false := by rfl) :
    FE X g W (.Call (.Name "isinstance" p) [.Name x p2, .Name y q2] [] pos) (eIsE a0 i c tab) := by
  obtain ⟨v1, v2, v3⟩ := vis_of V hi hN
  cases z : sbOf tab c with
  | none =>
    refine pe_no ?_
    rintro σ H Q ⟨ρ, env, G, R, E, h⟩
    unfold eIsE at h
    split at h
    · split at h
      · rw [z] at h; exact h.elim
      · exact h.elim
    · exact h.elim
  | some b => exact fe_isE hp (C b z) hz.zc hf hN v1 G.gl hm (pe_glob (v := .ref (g.ca cy)) G2.gl hm2 rfl G2.nd) (fun w r => r) htab v2 v3 q0 q1 q3
/-- isinstance(e, ValueError) -/
theorem fe_ix2 {a0 : Addr} {oe : Obj} {i c : Nat} {tab : List (Nat × Bool)} (hp : (a0, oe) ∈ X.pn) (hz : L2N.Zn (.ref (g.ca c)) none oe) (hf : ∃ vs, oe.data = .fields vs) (V : visI X.env.scope X.N is = true) (G : GlN X "isinstance") (hm : X.mg "isinstance" = none) (G2 : GlN X "ValueError") (hm2 : X.mg "ValueError" = none)
    (C : ∀ b, sbOf tab c = some b → ExcC X.K (g.ca c)) (htab : ∀ b, sbOf tab c = some b → PySem.W.kitOne X.K (.ref (g.ca c)) (.type "ValueError") = some b)
    (hi : is.contains i = true := by rfl) (hN : X.N[i]? = some x := by rfl)
    (q0 : starEach [.Name x p2, .Name "ValueError" q2] X.env = (false, eval (.Name x p2) X.env) :: starEach [.Name "ValueError" q2] X.env := by rfl) (q1 : starEach [.Name "ValueError" q2] X.env = (false, eval (.Name "ValueError" q2) X.env) :: starEach [] X.env := by rfl) (q3 : (backTo pos (starEach [.Name "ValueError" q2] X.env)).any (·.1) = false := by rfl) :
    FE X g W (.Call (.Name "isinstance" p) [.Name x p2, .Name "ValueError" q2] [] pos) (eIsE a0 i c tab) := by
  obtain ⟨v1, v2, v3⟩ := vis_of V hi hN
  cases z : sbOf tab c with
  | none =>
    refine pe_no ?_
    rintro σ H Q ⟨ρ, env, G, R, E, h⟩
    unfold eIsE at h
    split at h
    · split at h
      · rw [z] at h; exact h.elim
      · exact h.elim
    · exact h.elim
  | some b =>
    exact fe_isE hp (C b z) hz.zc hf hN v1 G.gl hm (v := .ty "ValueError") ⟨fun _ _ _ H _ I h => ld_blt I G2.gl hm2 bt_ValueError ⟨.ty "ValueError", H, I, rfl, h⟩ G2.nn G2.nd⟩ (fun w r => r) htab v2 v3 q0 q1 q3
end
/-- in a def's body -/
theorem takesD {P : Program} {w : World} {K : PySem.W.Frag} {mg : Str → Option Value} {base : Heap} {N : List Str} {q : Str} {sc : Scope} {f : Addr} {cdv : Value} {A : Around} {outer : List Env} {s : Shared} {H : Hp} {E : XK} :
    L2N.Takes (cxOf (L2N.CX P w) P w K mg base N q sc f cdv A outer s H E) (fun c d _ H => E c d H) := L2N.takes_of rfl rfl rfl rfl
theorem passD {P : Program} {w : World} {K : PySem.W.Frag} {mg : Str → Option Value} {base : Heap} {N : List Str} {q : Str} {sc : Scope} {f : Addr} {cdv : Value} {A : Around} {outer : List Env} {s : Shared} {H : Hp} {E : XK} :
    PassesOwn (model (cxOf (L2N.CX P w) P w K mg base N q sc f cdv A outer s H E).prog (cxOf (L2N.CX P w) P w K mg base N q sc f cdv A outer s H E).w) (cxOf (L2N.CX P w) P w K mg base N q sc f cdv A outer s H E).A (cxOf (L2N.CX P w) P w K mg base N q sc f cdv A outer s H E).env (cxOf (L2N.CX P w) P w K mg base N q sc f cdv A outer s H E).xe := L2.passes_of rfl
theorem takesH {P : Program} {w : World} {K : PySem.W.Frag} {mg : Str → Option Value} {base : Heap} {N : List Str} {q : Str} {sc : Scope} {f : Addr} {cdv : Value} {A : Around} {outer : List Env} {s : Shared} {H : Hp} {E : XK} {p : Addr × Obj} :
    L2N.Takes (L2H.cxH (L2N.CX P w) P w K mg base N q sc f cdv A outer s H E p) (fun c d _ H => E c d H) := L2N.takes_of rfl rfl rfl rfl
theorem roomS {X : Cx} {a : Addr} {pn : List (Addr × Obj)} {k : Nat} (hr : Room k X.A) : L2H.RoomH k (X.suite a pn).A := ⟨(L2H.roomH_of hr).dp, (L2H.roomH_of hr).un⟩
def fxEq : Fx → Fx → Bool
  | .exk x, .exk y => decide (x = y)
  | .isi x y b, .isi x' y' b' => decide (x = x') && (decide (y = y') && (b == b'))
  | .isv x b, .isv x' b' => decide (x = x') && (b == b')
  | _, _ => false
theorem fxEq_ok {f q : Fx} (h : fxEq f q = true) : f = q := by
  unfold fxEq at h
  split at h
  · rw [of_decide_eq_true h]
  · simp only [Bool.and_eq_true, decide_eq_true_eq, beq_iff_eq] at h
    rw [h.1, h.2.1, h.2.2]
  · simp only [Bool.and_eq_true, decide_eq_true_eq, beq_iff_eq] at h
    rw [h.1, h.2]
  · cases h
theorem fxSub {l L : List Fx} (h : (l.all fun f => L.any fun q => fxEq f q) = true) : ∀ f ∈ l, f ∈ L := fun f hf => by
  obtain ⟨q, hq, e⟩ := List.any_eq_true.mp (List.all_eq_true.mp h f hf)
  rw [fxEq_ok e]
  exact hq
/-- the facts of the classes in a table -/
def exFx (cl : List Str) (l : List (Nat × Bool)) : List Fx := l.map fun p => Fx.exk (nmOf cl p.1)
def isFx (cl : List Str) (cy : Nat) (l : List (Nat × Bool)) : List Fx := l.map fun p => Fx.isi (nmOf cl p.1) (nmOf cl cy) p.2
def ivFx (cl : List Str) (l : List (Nat × Bool)) : List Fx := l.map fun p => Fx.isv (nmOf cl p.1) p.2
section
variable {fa : List He.Fa} {fn : List He.DefD} {fx : List Fx} {K : PySem.W.Frag} {mg : Str → Option Value} (T : Txt fa fn fx K mg) {cl fl : List Str} {l : List (Nat × Bool)} {c cy : Nat}
include T
theorem ex_ok (h : ∀ f ∈ exFx cl l, f ∈ fx) : ∀ b, sbOf l c = some b → ExcC K ((tgOf K cl fl).ca c) := fun b e => excCB_ok (T.more _ (h _ (List.mem_map.mpr ⟨_, lookup_memN e, rfl⟩)))
theorem is_ok (h : ∀ f ∈ isFx cl cy l, f ∈ fx) : ∀ b, sbOf l c = some b → PySem.W.kitOne K (.ref ((tgOf K cl fl).ca c)) (.ref ((tgOf K cl fl).ca cy)) = some b := fun b e => of_decide_eq_true (T.more _ (h _ (List.mem_map.mpr ⟨_, lookup_memN e, rfl⟩)))
theorem iv_ok (h : ∀ f ∈ ivFx cl l, f ∈ fx) : ∀ b, sbOf l c = some b → PySem.W.kitOne K (.ref ((tgOf K cl fl).ca c)) (.type "ValueError") = some b := fun b e => of_decide_eq_true (T.more _ (h _ (List.mem_map.mpr ⟨_, lookup_memN e, rfl⟩)))
theorem Txt.dfn {d : He.DefD} (i : Nat) (h : fn[i]? = some d) : ∃ fd, FunD K d.name d.qual d.params d.body d.scope (d.dvs K) (d.kws K) (He.fAd K d.at_) fd := T.defs d (List.mem_of_getElem? h)
end
end Mi
/-! F, part 11: a def that is asked of an exception answers alike wherever the exception stands. -/
namespace Mi
open PySem PySem.Spec PyProof.Rows L2
theorem huH64 {k : Nat} {A : Around} (hr : L2H.RoomH k A) : A.units + 64 < cLine := by have := hr.un; omega
theorem huH1 {k : Nat} {A : Around} (hr : L2H.RoomH k A) : A.units + 1 < cLine := by have := hr.un; omega
/-- the slots: the exception, one name more -/
def xE (a : Addr) (y : Option D) : Ev := [some (.exc a), y]
def SimE (a : Addr) {α : Type} (m m0 : Ev → M α) : Prop := ∀ y G, m (xE a y) G = m0 (xE 0 y) G
inductive Rx where
  | nx (y : Option D) (G : Gh) | rt (d : D) (G : Gh) | er (c : Nat) (y : Option D) (G : Gh) | no
def Rx.at (a : Addr) : Rx → Ro
  | .nx y G => .nx (xE a y) G
  | .rt d G => .rt d G
  | .er c y G => .er c (xE a y) G
  | .no => .no
def SimS (a : Addr) (s s0 : Sm) : Prop := ∀ y G, ∃ r : Rx, s (xE a y) G = r.at a ∧ s0 (xE 0 y) G = r.at 0
section
variable {a : Addr} {m m0 n n0 : Ev → M D} {t t0 u u0 : Ev → M Bool} {l l0 : Ev → M (List D)} {s s0 r r0 : Sm}
theorem sim_v : SimE a (eVar 1) (eVar 1) := fun y G => rfl
theorem sim_c {d : D} : SimE a (eC d) (eC d) := fun y G => rfl
theorem sim_is {c : Nat} {tab : List (Nat × Bool)} : SimE a (eIsE a 0 c tab) (eIsE 0 0 c tab) := fun y G => by
  have k : ∀ b : Addr, eIsE b 0 c tab (xE b y) G = match sbOf tab c with
    | some b => .ok (.bl b) G
    | none => .no := fun b => by
    unfold eIsE xE
    cases sbOf tab c <;> simp
  rw [k a, k 0]
theorem sim_op {f : O2} (h : SimE a m m0) (k : SimE a n n0) : SimE a (eOp f m n) (eOp f m0 n0) := fun y G => by
  unfold eOp
  rw [h y G]
  cases m0 (xE 0 y) G with
  | ok d G1 => show Rs.bind (n (xE a y) G1) _ = _; rw [k y G1]; rfl
  | er c G1 => rfl
  | no => rfl
theorem sim_nil : SimE a aNil aNil := fun y G => rfl
theorem sim_cons (h : SimE a m m0) (k : SimE a l l0) : SimE a (aCons m l) (aCons m0 l0) := fun y G => by
  unfold aCons
  rw [h y G]
  cases m0 (xE 0 y) G with
  | ok d G1 => show Rs.bind (l (xE a y) G1) _ = _; rw [k y G1]; rfl
  | er c G1 => rfl
  | no => rfl
theorem sim_lst (k : SimE a l l0) : SimE a (eLst l) (eLst l0) := fun y G => by
  unfold eLst
  rw [k y G]
theorem sim_b {f : O1} (k : SimE a l l0) : SimE a (eB f l) (eB f l0) := fun y G => by
  unfold eB
  rw [k y G]
theorem sim_mt {f : OM} (h : SimE a m m0) (k : SimE a l l0) : SimE a (eMt f m l) (eMt f m0 l0) := fun y G => by
  unfold eMt
  rw [h y G]
  cases m0 (xE 0 y) G with
  | ok d G1 =>
    show (if isLst d G1 = true then Rs.bind (l (xE a y) G1) _ else _) = _
    rw [k y G1]; rfl
  | er c G1 => rfl
  | no => rfl
theorem sim_tru (h : SimE a m m0) : SimE a (tru m) (tru m0) := fun y G => by
  unfold tru
  rw [h y G]
theorem sim_asB (h : SimE a m m0) : SimE a (asB m) (asB m0) := fun y G => by
  unfold asB
  rw [h y G]
theorem sim_not (h : SimE a t t0) : SimE a (bNot t) (bNot t0) := fun y G => by
  unfold bNot
  rw [h y G]
theorem sim_and (h : SimE a t t0) (k : SimE a u u0) : SimE a (bAnd t u) (bAnd t0 u0) := fun y G => by
  unfold bAnd
  rw [h y G]
  cases t0 (xE 0 y) G with
  | ok d G1 =>
    show (if d = true then u (xE a y) G1 else _) = _
    rw [k y G1]; rfl
  | er c G1 => rfl
  | no => rfl
theorem sim_nx : SimS a sNx sNx := fun y G => ⟨.nx y G, rfl, rfl⟩
theorem sim_drop (h : SimE a m m0) : SimS a (sDrop m) (sDrop m0) := fun y G => by
  unfold sDrop
  rw [h y G]
  cases m0 (xE 0 y) G with
  | ok d G1 => exact ⟨.nx y G1, rfl, rfl⟩
  | er c G1 => exact ⟨.er c y G1, rfl, rfl⟩
  | no => exact ⟨.no, rfl, rfl⟩
theorem sim_ret (h : SimE a m m0) : SimS a (sRet m) (sRet m0) := fun y G => by
  unfold sRet
  rw [h y G]
  cases m0 (xE 0 y) G with
  | ok d G1 => exact ⟨.rt d G1, rfl, rfl⟩
  | er c G1 => exact ⟨.er c y G1, rfl, rfl⟩
  | no => exact ⟨.no, rfl, rfl⟩
theorem sim_asg (h : SimE a m m0) : SimS a (sAsg (gmN 1) m) (sAsg (gmN 1) m0) := fun y G => by
  unfold sAsg
  rw [h y G]
  cases m0 (xE 0 y) G with
  | ok d G1 => exact ⟨.nx (some d) G1, rfl, rfl⟩
  | er c G1 => exact ⟨.er c y G1, rfl, rfl⟩
  | no => exact ⟨.no, rfl, rfl⟩
theorem sim_if (h : SimE a t t0) (k : SimS a s s0) (j : SimS a r r0) : SimS a (sIf t s r) (sIf t0 s0 r0) := fun y G => by
  unfold sIf
  rw [h y G]
  cases t0 (xE 0 y) G with
  | ok b G1 =>
    cases b with
    | true => exact k y G1
    | false => exact j y G1
  | er c G1 => exact ⟨.er c y G1, rfl, rfl⟩
  | no => exact ⟨.no, rfl, rfl⟩
theorem sim_seq (k : SimS a s s0) (j : SimS a r r0) : SimS a (sSeq s r) (sSeq s0 r0) := fun y G => by
  unfold sSeq
  obtain ⟨q, e1, e2⟩ := k y G
  rw [e1, e2]
  cases q with
  | nx y1 G1 => exact j y1 G1
  | rt d G1 => exact ⟨.rt d G1, rfl, rfl⟩
  | er c y1 G1 => exact ⟨.er c y1 G1, rfl, rfl⟩
  | no => exact ⟨.no, rfl, rfl⟩
theorem sim_fun (h : SimS a s s0) (G : Gh) : mFun 1 2 s [.exc a] G = mFun 1 2 s0 [.exc 0] G := by
  obtain ⟨q, e1, e2⟩ := h none G
  show (match s (xE a none) G with
    | .nx _ G' => Rs.ok D.non G'
    | .rt d G' => .ok d G'
    | .er c _ G' => .er c G'
    | _ => .no) = (match s0 (xE 0 none) G with
    | .nx _ G' => Rs.ok D.non G'
    | .rt d G' => .ok d G'
    | .er c _ G' => .er c G'
    | _ => .no)
  rw [e1, e2]
  cases q <;> rfl
end
end Mi
/-! P, part 1: what a mirror's run must reach (weakest preconditions), one equation a word. -/
namespace Mi
open PySem PySem.Spec PyProof.Rows L2

def Rs.sat {α : Type} (r : Rs α) (Q : α → Gh → Prop) (E : Nat → Gh → Prop) : Prop := match r with
  | .ok a G => Q a G
  | .er c G => E c G
  | .no => False
structure Pq where
  nx : Ev → Gh → Prop
  rt : D → Gh → Prop
  er : Nat → Ev → Gh → Prop
  bk : Ev → Gh → Prop
  ct : Ev → Gh → Prop
def Ro.sat (r : Ro) (q : Pq) : Prop := match r with
  | .nx e G => q.nx e G
  | .rt d G => q.rt d G
  | .er c e G => q.er c e G
  | .bk e G => q.bk e G
  | .ct e G => q.ct e G
  | .no => False
theorem Rs.sat_mono {α : Type} {r : Rs α} {Q Q' : α → Gh → Prop} {E E' : Nat → Gh → Prop} (h : r.sat Q E) (hQ : ∀ a G, Q a G → Q' a G) (hE : ∀ c G, E c G → E' c G) : r.sat Q' E' := by
  cases r with
  | ok a G => exact hQ a G h
  | er c G => exact hE c G h
  | no => exact h
theorem Ro.sat_mono {r : Ro} {q q' : Pq} (h : r.sat q) (h1 : ∀ e G, q.nx e G → q'.nx e G) (h2 : ∀ d G, q.rt d G → q'.rt d G) (h3 : ∀ c e G, q.er c e G → q'.er c e G) (h4 : ∀ e G, q.bk e G → q'.bk e G) (h5 : ∀ e G, q.ct e G → q'.ct e G) : r.sat q' := by
  cases r with
  | nx e G => exact h1 e G h
  | rt e G => exact h2 e G h
  | er c e G => exact h3 c e G h
  | bk e G => exact h4 e G h
  | ct e G => exact h5 e G h
  | no => exact h
/-- no error -/
abbrev nE : Nat → Gh → Prop := fun _ _ => False
theorem Rs.ok_of {α : Type} {r : Rs α} {Q : α → Gh → Prop} (h : r.sat Q nE) : ∃ a G, r = .ok a G ∧ Q a G := by
  cases r with
  | ok a G => exact ⟨a, G, rfl, h⟩
  | er c G => exact h.elim
  | no => exact h.elim
section
variable {α : Type} {Q : D → Gh → Prop} {Qb : Bool → Gh → Prop} {Ql : List D → Gh → Prop} {Qi : Option Int → Gh → Prop} {E : Nat → Gh → Prop} {env : Ev} {G : Gh} {ma mb mc : Ev → M D} {n n' : Ev → M Bool} {ms : Ev → M (List D)} {q : Pq} {s s' : Sm}
theorem w_ok {a : α} {Q : α → Gh → Prop} : (Rs.ok a G).sat Q E ↔ Q a G := Iff.rfl
theorem w_bind {β : Type} {r : Rs β} {f : β → M α} {Q : α → Gh → Prop} : (r.bind f).sat Q E ↔ r.sat (fun a G1 => (f a G1).sat Q E) E := by cases r <;> exact Iff.rfl
theorem w_c {d : D} : (eC d env G).sat Q E ↔ Q d G := Iff.rfl
/-- the value in a slot -/
def slotQ (o : Option (Option D)) (Q : D → Prop) : Prop := match o with
  | some (some d) => Q d
  | _ => False
theorem slotQ_some {d : D} {Q : D → Prop} : slotQ (some (some d)) Q ↔ Q d := Iff.rfl
theorem w_v {i : Nat} : (eVar i env G).sat Q E ↔ slotQ env[i]? fun d => Q d G := by
  unfold eVar slotQ
  cases env[i]? with
  | none => exact Iff.rfl
  | some o => cases o <;> exact Iff.rfl
/-- an operation's answer -/
def opQ (o : Option (D × Gh)) (Q : D → Gh → Prop) : Prop := match o with
  | some (d, G) => Q d G
  | none => False
theorem opQ_some {d : D} : opQ (some (d, G)) Q ↔ Q d G := Iff.rfl
theorem w_lift {o : Option (D × Gh)} : (lift o).sat Q E ↔ opQ o Q := by cases o <;> exact Iff.rfl
theorem w_op {f : O2} : (eOp f ma mb env G).sat Q E ↔ (ma env G).sat (fun x G1 => (mb env G1).sat (fun y G2 => opQ (f x y G2) Q) E) E := by
  unfold eOp
  rw [w_bind]
  cases ma env G with
  | ok x G1 =>
    rw [w_ok, w_ok, w_bind]
    cases mb env G1 with
    | ok y G2 => exact w_lift
    | _ => exact Iff.rfl
  | _ => exact Iff.rfl
theorem w_un {f : D → Gh → Option (D × Gh)} : (eUn f ma env G).sat Q E ↔ (ma env G).sat (fun x G1 => opQ (f x G1) Q) E := by
  unfold eUn
  rw [w_bind]
  cases ma env G with
  | ok x G1 => exact w_lift
  | _ => exact Iff.rfl
theorem w_b {f : O1} : (eB f ms env G).sat Q E ↔ (ms env G).sat (fun ds G1 => opQ (f ds G1) Q) E := by
  unfold eB
  rw [w_bind]
  cases ms env G with
  | ok x G1 => exact w_lift
  | _ => exact Iff.rfl
theorem w_nil : (aNil env G).sat Ql E ↔ Ql [] G := Iff.rfl
theorem w_cons : (aCons ma ms env G).sat Ql E ↔ (ma env G).sat (fun d G1 => (ms env G1).sat (fun ds G2 => Ql (d :: ds) G2) E) E := by
  unfold aCons
  rw [w_bind]
  cases ma env G with
  | ok x G1 =>
    rw [w_ok, w_ok, w_bind]
    cases ms env G1 <;> exact Iff.rfl
  | _ => exact Iff.rfl
theorem w_call {m : List D → M D} : (eCall m ms env G).sat Q E ↔ (ms env G).sat (fun ds G1 => (m ds G1).sat Q E) E := w_bind
theorem w_tup : (eTup ms env G).sat Q E ↔ (ms env G).sat (fun ds G1 => ds.length ≤ sizeLine ∧ Q (.tup ds) G1) E := by
  unfold eTup
  rw [w_bind]
  cases ms env G with
  | ok ds G1 =>
    show Rs.sat (if ds.length ≤ sizeLine then Rs.ok _ G1 else .no) _ _ ↔ _
    split
    · rename_i h; exact ⟨fun k => ⟨h, k⟩, fun k => k.2⟩
    · rename_i h; exact ⟨fun k => k.elim, fun k => h k.1⟩
  | _ => exact Iff.rfl
theorem w_lst : (eLst ms env G).sat Q E ↔ (ms env G).sat (fun ds G1 => ds.length ≤ sizeLine ∧ Q (.ref G1.n) (G1.push (.lst ds))) E := by
  unfold eLst
  rw [w_bind]
  cases ms env G with
  | ok ds G1 =>
    show Rs.sat (if ds.length ≤ sizeLine then Rs.ok _ _ else .no) _ _ ↔ _
    split
    · rename_i h; exact ⟨fun k => ⟨h, k⟩, fun k => k.2⟩
    · rename_i h; exact ⟨fun k => k.elim, fun k => h k.1⟩
  | _ => exact Iff.rfl
theorem w_dct0 : (eDct0 env G).sat Q E ↔ Q (.ref G.n) (G.push (.dct [])) := Iff.rfl
/-- a value that is there -/
def opD (o : Option D) (Q : D → Prop) : Prop := match o with
  | some d => Q d
  | none => False
theorem opD_some {d : D} {Q : D → Prop} : opD (some d) Q ↔ Q d := Iff.rfl
theorem w_fld {na : Nat → Nat → Bool} {f : Nat} : (eFld na f ma env G).sat Q E ↔ (ma env G).sat (fun d G1 => opD (fldO na f d G1) fun v => Q v G1) E := by
  unfold eFld
  rw [w_bind]
  cases ma env G with
  | ok d G1 =>
    rw [w_ok, w_ok]
    cases fldO na f d G1 <;> exact Iff.rfl
  | _ => exact Iff.rfl
/-- the instance at d, of the class c -/
def insQ (G : Gh) (c : Nat) (bad : Option Nat) (d : D) (Q : Prop) : Prop := match d with
  | .ref i => (match G.ob i with
    | .ins c' fs => (c' = c ∧ ∀ f, bad = some f → valD fs f = none) ∧ Q
    | _ => False)
  | _ => False
theorem insQ_of {c : Nat} {i : Nat} {fs : List (Nat × D)} {R : Prop} (h : G.ob i = .ins c fs) : insQ G c none (.ref i) R ↔ R := by
  unfold insQ
  dsimp only
  rw [h]
  exact ⟨fun k => k.2, fun k => ⟨⟨rfl, fun _ e => nomatch e⟩, k⟩⟩
theorem w_meth {c : Nat} {bad : Option Nat} {m : List D → M D} : (eMeth c bad m ma ms env G).sat Q E ↔ (ma env G).sat (fun x G1 => insQ G1 c bad x ((ms env G1).sat (fun ds G2 => (m (x :: ds) G2).sat Q E) E)) E := by
  unfold eMeth
  rw [w_bind]
  cases ma env G with
  | ok x G1 =>
    rw [w_ok, w_ok]
    cases x with
    | ref i =>
      unfold insQ
      dsimp only
      cases G1.ob i with
      | ins c' fs =>
        dsimp only
        split
        · rename_i h
          rw [w_bind]
          exact ⟨fun k => ⟨h, k⟩, fun k => k.2⟩
        · rename_i h
          exact ⟨fun k => k.elim, fun k => h k.1⟩
      | _ => exact Iff.rfl
    | _ => exact Iff.rfl
  | _ => exact Iff.rfl
theorem w_make {c : Nat} {m : List D → M D} : (eMake c m ms env G).sat Q E ↔ (ms env G).sat (fun ds G1 => (m (.ref G1.n :: ds) (G1.push (.ins c []))).sat (fun d G2 => d = .non ∧ Q (.ref G1.n) G2) E) E := by
  unfold eMake
  rw [w_bind]
  cases ms env G with
  | ok ds G1 =>
    rw [w_ok, w_ok, w_bind]
    cases m (.ref G1.n :: ds) (G1.push (.ins c [])) with
    | ok d G2 =>
      rw [w_ok, w_ok]
      cases d with
      | non => exact ⟨fun k => ⟨rfl, k⟩, fun k => k.2⟩
      | _ => exact ⟨fun k => k.elim, fun k => D.noConfusion k.1⟩
    | _ => exact Iff.rfl
  | _ => exact Iff.rfl
theorem w_mt {f : OM} : (eMt f ma ms env G).sat Q E ↔ (ma env G).sat (fun d G1 => isLst d G1 = true ∧ (ms env G1).sat (fun ds G2 => opQ (f d ds G2) Q) E) E := by
  unfold eMt
  rw [w_bind]
  cases ma env G with
  | ok d G1 =>
    show Rs.sat (if isLst d G1 = true then (ms env G1).bind fun ds G2 => lift (f d ds G2) else .no) Q E ↔ _
    split
    · rename_i h
      rw [w_bind]
      refine ⟨fun k => ⟨h, ?_⟩, fun k => ?_⟩
      · cases e : ms env G1 with
        | ok ds G2 => rw [e] at k; exact w_lift.mp k
        | er c G2 => rw [e] at k; exact k
        | no => rw [e] at k; exact k
      · have k := k.2
        cases e : ms env G1 with
        | ok ds G2 => rw [e] at k; exact w_lift.mpr k
        | er c G2 => rw [e] at k; exact k
        | no => rw [e] at k; exact k
    · rename_i h
      exact ⟨fun k => k.elim, fun k => h k.1⟩
  | _ => exact Iff.rfl
/-- the entry of a dict, or the other value -/
def getQ (o : Option (List (Key × D))) (k : Option Key) (z : D) (Q : D → Prop) : Prop := match o, k with
  | some kvs, some k => Q ((valD kvs k).getD z)
  | _, _ => False
theorem getQ_some {kvs : List (Key × D)} {k : Key} {z : D} {Q : D → Prop} : getQ (some kvs) (some k) z Q ↔ Q ((valD kvs k).getD z) := Iff.rfl
theorem w_get2 : (eGet2 ma mb mc env G).sat Q E ↔ (ma env G).sat (fun d G1 => (dctD d G1).isSome = true ∧ (mb env G1).sat (fun y G2 => (mc env G2).sat (fun z G3 => getQ (dctD d G3) (keyD y) z fun v => Q v G3) E) E) E := by
  unfold eGet2
  rw [w_bind]
  cases ma env G with
  | ok d G1 =>
    rw [w_ok, w_ok]
    cases e0 : dctD d G1 with
    | none => exact ⟨fun k => k.elim, fun k => by cases k.1⟩
    | some kvs =>
      dsimp only
      rw [w_bind]
      refine Iff.trans ?_ (and_iff_right rfl).symm
      cases mb env G1 with
      | ok y G2 =>
        rw [w_ok, w_ok, w_bind]
        cases mc env G2 with
        | ok z G3 =>
          rw [w_ok, w_ok]
          unfold getQ
          cases dctD d G3 <;> cases keyD y <;> exact Iff.rfl
        | _ => exact Iff.rfl
      | _ => exact Iff.rfl
  | _ => exact Iff.rfl
/-- a truth that is known -/
def opB (o : Option Bool) (Q : Bool → Prop) : Prop := match o with
  | some b => Q b
  | none => False
theorem opB_some {b : Bool} {Q : Bool → Prop} : opB (some b) Q ↔ Q b := Iff.rfl
theorem w_tru : (tru ma env G).sat Qb E ↔ (ma env G).sat (fun d G1 => opB (truD d G1) fun b => Qb b G1) E := by
  unfold tru
  rw [w_bind]
  cases ma env G with
  | ok d G1 =>
    rw [w_ok, w_ok]
    cases truD d G1 <;> exact Iff.rfl
  | _ => exact Iff.rfl
def blQ (d : D) (Q : Bool → Prop) : Prop := match d with
  | .bl b => Q b
  | _ => False
theorem blQ_bl {b : Bool} {Q : Bool → Prop} : blQ (.bl b) Q ↔ Q b := Iff.rfl
theorem w_asB : (asB ma env G).sat Qb E ↔ (ma env G).sat (fun d G1 => blQ d fun b => Qb b G1) E := by
  unfold asB
  rw [w_bind]
  cases ma env G with
  | ok d G1 => cases d <;> exact Iff.rfl
  | _ => exact Iff.rfl
theorem w_not : (bNot n env G).sat Qb E ↔ (n env G).sat (fun b G1 => Qb (!b) G1) E := w_bind
theorem w_and : (bAnd n n' env G).sat Qb E ↔ (n env G).sat (fun b G1 => if b = true then (n' env G1).sat Qb E else Qb false G1) E := by
  unfold bAnd
  rw [w_bind]
  cases n env G with
  | ok b G1 => cases b <;> exact Iff.rfl
  | _ => exact Iff.rfl
theorem w_or : (bOr n n' env G).sat Qb E ↔ (n env G).sat (fun b G1 => if b = true then Qb true G1 else (n' env G1).sat Qb E) E := by
  unfold bOr
  rw [w_bind]
  cases n env G with
  | ok b G1 => cases b <;> exact Iff.rfl
  | _ => exact Iff.rfl
theorem w_chain {f f' : O2} : (eChain f f' ma mb mc env G).sat Q E ↔ (ma env G).sat (fun x G1 => (mb env G1).sat (fun y G2 => opQ (f x y G2) fun z G3 => blQ z fun b => if b = true then (mc env G3).sat (fun w G4 => opQ (f' y w G4) Q) E else Q (.bl false) G3) E) E := by
  unfold eChain
  rw [w_bind]
  cases ma env G with
  | ok x G1 =>
    rw [w_ok, w_ok, w_bind]
    cases mb env G1 with
    | ok y G2 =>
      rw [w_ok, w_ok, w_bind, w_lift]
      cases f x y G2 with
      | none => exact Iff.rfl
      | some p =>
        obtain ⟨z, G3⟩ := p
        show Rs.sat (match z with
          | .bl true => (mc env G3).bind fun w G4 => lift (f' y w G4)
          | .bl false => .ok (.bl false) G3
          | _ => .no) Q E ↔ blQ z _
        cases z with
        | bl b =>
          cases b with
          | false => exact Iff.rfl
          | true =>
            dsimp only
            rw [w_bind]
            cases mc env G3 with
            | ok w G4 => exact w_lift
            | _ => exact Iff.rfl
        | _ => exact Iff.rfl
    | _ => exact Iff.rfl
  | _ => exact Iff.rfl
theorem w_andV : (eAndV ma mb env G).sat Q E ↔ (ma env G).sat (fun d G1 => opB (truD d G1) fun b => if b = true then (mb env G1).sat Q E else Q d G1) E := by
  unfold eAndV
  rw [w_bind]
  cases ma env G with
  | ok d G1 =>
    rw [w_ok, w_ok]
    cases truD d G1 with
    | none => exact Iff.rfl
    | some b => cases b <;> exact Iff.rfl
  | _ => exact Iff.rfl
theorem w_orV : (eOrV ma mb env G).sat Q E ↔ (ma env G).sat (fun d G1 => opB (truD d G1) fun b => if b = true then Q d G1 else (mb env G1).sat Q E) E := by
  unfold eOrV
  rw [w_bind]
  cases ma env G with
  | ok d G1 =>
    rw [w_ok, w_ok]
    cases truD d G1 with
    | none => exact Iff.rfl
    | some b => cases b <;> exact Iff.rfl
  | _ => exact Iff.rfl
theorem w_notV : (eNotV ma env G).sat Q E ↔ (ma env G).sat (fun d G1 => opB (truD d G1) fun b => Q (.bl (!b)) G1) E := by
  unfold eNotV
  rw [w_bind, w_tru]
  exact Iff.rfl
theorem w_if : (eIf n ma mb env G).sat Q E ↔ (n env G).sat (fun b G1 => if b = true then (ma env G1).sat Q E else (mb env G1).sat Q E) E := by
  unfold eIf
  rw [w_bind]
  cases n env G with
  | ok b G1 => cases b <;> exact Iff.rfl
  | _ => exact Iff.rfl
def tyQ (o : Option Nat) (Q : Nat → Prop) : Prop := match o with
  | some n => Q n
  | none => False
theorem tyQ_some {k : Nat} {Q : Nat → Prop} : tyQ (some k) Q ↔ Q k := Iff.rfl
theorem w_isi {k : Nat} : (eIsi k ma env G).sat Q E ↔ (ma env G).sat (fun d G1 => tyQ (tyD d G1) fun j => Q (.bl (isTy j k)) G1) E := by
  unfold eIsi
  rw [w_bind]
  cases ma env G with
  | ok d G1 =>
    rw [w_ok, w_ok]
    cases tyD d G1 <;> exact Iff.rfl
  | _ => exact Iff.rfl
theorem w_pNone : (pNone env G).sat Qi E ↔ Qi none G := Iff.rfl
def inQ (d : D) (Q : Int → Prop) : Prop := match d with
  | .int i => Q i
  | _ => False
theorem inQ_int {i : Int} {Q : Int → Prop} : inQ (.int i) Q ↔ Q i := Iff.rfl
theorem w_pSome : (pSome ma env G).sat Qi E ↔ (ma env G).sat (fun d G1 => inQ d fun i => Qi (some i) G1) E := by
  unfold pSome
  rw [w_bind]
  cases ma env G with
  | ok d G1 => cases d <;> exact Iff.rfl
  | _ => exact Iff.rfl
theorem w_sl {p p' : Ev → M (Option Int)} : (eSl ma p p' env G).sat Q E ↔ (ma env G).sat (fun x G1 => (p env G1).sat (fun lo G2 => (p' env G2).sat (fun hi G3 => opQ (slD x lo hi G3) Q) E) E) E := by
  unfold eSl
  rw [w_bind]
  cases ma env G with
  | ok x G1 =>
    rw [w_ok, w_ok, w_bind]
    cases p env G1 with
    | ok lo G2 =>
      rw [w_ok, w_ok, w_bind]
      cases p' env G2 with
      | ok hi G3 => exact w_lift
      | _ => exact Iff.rfl
    | _ => exact Iff.rfl
  | _ => exact Iff.rfl

/-! ### statements -/
theorem w_exS {β : Type} {r : Rs β} {f : β → Gh → Ro} : (exS r env f).sat q ↔ r.sat (fun a G1 => (f a G1).sat q) (fun c G1 => q.er c env G1) := by cases r <;> exact Iff.rfl
theorem w_nx : (sNx env G).sat q ↔ q.nx env G := Iff.rfl
theorem w_brk : (sBrk env G).sat q ↔ q.bk env G := Iff.rfl
theorem w_cnt : (sCnt env G).sat q ↔ q.ct env G := Iff.rfl
theorem w_seq : (sSeq s s' env G).sat q ↔ (s env G).sat ⟨fun e G1 => (s' e G1).sat q, q.rt, q.er, q.bk, q.ct⟩ := by
  unfold sSeq
  cases s env G <;> exact Iff.rfl
theorem w_drop : (sDrop ma env G).sat q ↔ (ma env G).sat (fun _ G1 => q.nx env G1) (fun c G1 => q.er c env G1) := w_exS
theorem w_ret : (sRet ma env G).sat q ↔ (ma env G).sat (fun d G1 => q.rt d G1) (fun c G1 => q.er c env G1) := w_exS
theorem w_retN : (sRetN env G).sat q ↔ q.rt .non G := Iff.rfl
theorem w_sif : (sIf n s s' env G).sat q ↔ (n env G).sat (fun b G1 => if b = true then (s env G1).sat q else (s' env G1).sat q) (fun c G1 => q.er c env G1) := by
  unfold sIf
  rw [w_exS]
  cases n env G with
  | ok b G1 => cases b <;> exact Iff.rfl
  | _ => exact Iff.rfl
theorem w_raise {c : Nat} : (sRaise c env G).sat q ↔ q.er c env G := Iff.rfl
theorem w_set {i : Nat} : (sAsg (gmN i) ma env G).sat q ↔ (ma env G).sat (fun d G1 => q.nx (env.set i (some d)) G1) (fun c G1 => q.er c env G1) := by
  unfold sAsg
  rw [w_exS]
  cases ma env G <;> exact Iff.rfl
def evQ (o : Option Ev) (Q : Ev → Prop) : Prop := match o with
  | some e => Q e
  | none => False
theorem evQ_some {e : Ev} {Q : Ev → Prop} : evQ (some e) Q ↔ Q e := Iff.rfl
theorem w_asg {t : Tm} : (sAsg t ma env G).sat q ↔ (ma env G).sat (fun d G1 => evQ (t d G1 env) fun e => q.nx e G1) (fun c G1 => q.er c env G1) := by
  unfold sAsg
  rw [w_exS]
  cases ma env G with
  | ok d G1 =>
    rw [w_ok, w_ok]
    cases t d G1 env <;> exact Iff.rfl
  | _ => exact Iff.rfl
def ghQ (o : Option Gh) (Q : Gh → Prop) : Prop := match o with
  | some G => Q G
  | none => False
theorem ghQ_some {Q : Gh → Prop} : ghQ (some G) Q ↔ Q G := Iff.rfl
theorem w_sfld {na : Nat → Nat → Bool} {f : Nat} : (sFld na f ma mb env G).sat q ↔ (mb env G).sat (fun v G1 => (ma env G1).sat (fun d G2 => ghQ (setFldO na f d v G2) fun G3 => q.nx env G3) (fun c G1 => q.er c env G1)) (fun c G1 => q.er c env G1) := by
  unfold sFld
  rw [w_exS]
  cases mb env G with
  | ok v G1 =>
    rw [w_ok, w_ok, w_exS]
    cases ma env G1 with
    | ok d G2 =>
      rw [w_ok, w_ok]
      cases setFldO na f d v G2 <;> exact Iff.rfl
    | _ => exact Iff.rfl
  | _ => exact Iff.rfl
theorem w_ssub : (sSub ma mb mc env G).sat q ↔ (mc env G).sat (fun v G1 => (ma env G1).sat (fun d G2 => (mb env G2).sat (fun i G3 => ghQ (setO d i v G3) fun G4 => q.nx env G4) (fun c G1 => q.er c env G1)) (fun c G1 => q.er c env G1)) (fun c G1 => q.er c env G1) := by
  unfold sSub
  rw [w_exS]
  cases mc env G with
  | ok v G1 =>
    rw [w_ok, w_ok, w_exS]
    cases ma env G1 with
    | ok d G2 =>
      rw [w_ok, w_ok, w_exS]
      cases mb env G2 with
      | ok i G3 =>
        rw [w_ok, w_ok]
        cases setO d i v G3 <;> exact Iff.rfl
      | _ => exact Iff.rfl
    | _ => exact Iff.rfl
  | _ => exact Iff.rfl
theorem w_saug {i : Nat} {f : O2} : (sAug i f ma env G).sat q ↔ slotQ env[i]? fun w => (ma env G).sat (fun v G1 => opQ (f w v G1) fun z G2 => q.nx (env.set i (some z)) G2) (fun c G1 => q.er c env G1) := by
  unfold sAug slotQ
  cases env[i]? with
  | none => exact Iff.rfl
  | some o =>
    cases o with
    | none => exact Iff.rfl
    | some w =>
      dsimp only
      rw [w_exS]
      cases ma env G with
      | ok v G1 =>
        rw [w_ok, w_ok]
        cases f w v G1 <;> exact Iff.rfl
      | _ => exact Iff.rfl
theorem w_fun {np nn : Nat} {ds : List D} : (mFun np nn s ds G).sat Q E ↔ ds.length = np ∧ (s (ds.map some ++ List.replicate (nn - np) none) G).sat ⟨fun _ G1 => Q .non G1, Q, fun c _ G1 => E c G1, fun _ _ => False, fun _ _ => False⟩ := by
  unfold mFun
  split
  · rename_i h
    constructor
    · intro k
      refine ⟨h, ?_⟩
      revert k
      cases s (ds.map some ++ List.replicate (nn - np) none) G <;> exact id
    · rintro ⟨_, k⟩
      revert k
      cases s (ds.map some ++ List.replicate (nn - np) none) G <;> exact id
  · rename_i h
    exact ⟨fun k => k.elim, fun k => h k.1⟩
/-! ### loops -/
/-- over items that stand still: P i behind i turns -/
theorem loop_sat {it : Im} {t : Tm} {xs : List D} (P : Nat → Ev → Gh → Prop) (hit : ∀ i e G, i ≤ xs.length → P i e G → it.at_ i G = some xs[i]?)
    (turn : ∀ i d e G, xs[i]? = some d → P i e G → evQ (t d G e) fun e1 => (s e1 G).sat ⟨P (i + 1), q.rt, q.er, q.nx, P (i + 1)⟩) (done : ∀ e G, P xs.length e G → q.nx e G) :
    ∀ (n i : Nat) (e : Ev) (G : Gh), n + i = xs.length → P i e G → (loopR it t s n i e G).sat q := by
  intro n
  induction n with
  | zero =>
    intro i e G hn p
    have hi : i = xs.length := by omega
    subst hi
    rw [loopR, hit _ e G (Nat.le_refl _) p, List.getElem?_eq_none (Nat.le_refl _)]
    exact done e G p
  | succ n ih =>
    intro i e G hn p
    have hi : i < xs.length := by omega
    rw [loopR, hit i e G (by omega) p, List.getElem?_eq_getElem hi]
    dsimp only
    have k := turn i xs[i] e G (List.getElem?_eq_getElem hi) p
    cases z : t xs[i] G e with
    | none => rw [z] at k; exact k.elim
    | some e1 =>
      rw [z] at k
      have k : (s e1 G).sat ⟨P (i + 1), q.rt, q.er, q.nx, P (i + 1)⟩ := k
      dsimp only
      cases z2 : s e1 G with
      | nx e2 G2 => rw [z2] at k; exact ih (i + 1) e2 G2 (by omega) k
      | ct e2 G2 => rw [z2] at k; exact ih (i + 1) e2 G2 (by omega) k
      | bk e2 G2 => rw [z2] at k; exact k
      | rt d G2 => rw [z2] at k; exact k
      | er c e2 G2 => rw [z2] at k; exact k
      | no => rw [z2] at k; exact k.elim
theorem w_for {mi : Ev → M Im} {t : Tm} : (sFor mi t s env G).sat q ↔ (mi env G).sat (fun it G1 => (loopR it t s it.n 0 env G1).sat q) (fun c G1 => q.er c env G1) := w_exS
def imQ (o : Option Im) (Q : Im → Prop) : Prop := match o with
  | some it => Q it
  | none => False
theorem w_iseq {Qm : Im → Gh → Prop} : (iSeq ma env G).sat Qm E ↔ (ma env G).sat (fun d G1 => imQ (seqI d G1) fun it => Qm it G1) E := by
  unfold iSeq
  rw [w_bind]
  cases ma env G with
  | ok d G1 =>
    show Rs.sat (match seqI d G1 with | some it => Rs.ok it G1 | none => .no) _ _ ↔ imQ (seqI d G1) _
    cases seqI d G1 <;> exact Iff.rfl
  | _ => exact Iff.rfl
theorem w_irng1 {Qm : Im → Gh → Prop} : (iRng1' ms env G).sat Qm E ↔ (ms env G).sat (fun ds G1 => imQ (rng1 ds) fun it => Qm it G1) E := by
  unfold iRng1'
  rw [w_bind]
  cases ms env G with
  | ok d G1 =>
    show Rs.sat (match rng1 d with | some it => Rs.ok it G1 | none => .no) _ _ ↔ imQ (rng1 d) _
    cases rng1 d <;> exact Iff.rfl
  | _ => exact Iff.rfl
theorem w_irng2 {Qm : Im → Gh → Prop} : (iRng2' ms env G).sat Qm E ↔ (ms env G).sat (fun ds G1 => imQ (rng2 ds) fun it => Qm it G1) E := by
  unfold iRng2'
  rw [w_bind]
  cases ms env G with
  | ok d G1 =>
    show Rs.sat (match rng2 d with | some it => Rs.ok it G1 | none => .no) _ _ ↔ imQ (rng2 d) _
    cases rng2 d <;> exact Iff.rfl
  | _ => exact Iff.rfl
/-- a range's items -/
def rngL (i : Int) (n : Nat) : List D := (List.range n).map fun (k : Nat) => D.int (i + k)
theorem rngL_len {i : Int} {n : Nat} : (rngL i n).length = n := by unfold rngL; simp
theorem rngL_at {i : Int} {n k : Nat} : (rngL i n)[k]? = if k < n then some (.int (i + k)) else none := by
  unfold rngL
  rw [List.getElem?_map]
  split
  · rename_i h
    rw [List.getElem?_range h]; rfl
  · rename_i h
    rw [List.getElem?_eq_none (by simpa using h)]; rfl
structure RB (i j : Int) : Prop where
  h : -1000000000 ≤ i ∧ i ≤ 1000000000 ∧ -1000000000 ≤ j ∧ j ≤ 1000000000
theorem RB.big {i j : Int} (b : RB i j) : -(2 ^ 62) ≤ i ∧ i < 2 ^ 62 ∧ -(2 ^ 62) ≤ j ∧ j < 2 ^ 62 := by
  have h := b.h
  have e : (2 : Int) ^ 62 = 4611686018427387904 := by decide +kernel
  rw [e]; omega
theorem rng_sat {i j : Int} {t : Tm} (hb : RB i j) (P : Nat → Ev → Gh → Prop) (h0 : P 0 env G)
    (turn : ∀ (k : Nat) e G, k < (j - i).toNat → P k e G → evQ (t (.int (i + k)) G e) fun e1 => (s e1 G).sat ⟨P (k + 1), q.rt, q.er, q.nx, P (k + 1)⟩) (done : ∀ e G, P (j - i).toNat e G → q.nx e G) :
    imQ (rngI i j) fun it => (loopR it t s it.n 0 env G).sat q := by
  unfold rngI
  rw [if_pos hb.big]
  show Ro.sat (loopR _ t s (j - i).toNat 0 env G) q
  refine loop_sat (xs := rngL i (j - i).toNat) P (fun k e G _ _ => by rw [rngL_at]) (fun k d e G hd p => ?_) (fun e G p => done e G (by rw [rngL_len] at p; exact p)) _ 0 env G (by rw [rngL_len]; rfl) h0
  rw [rngL_at] at hd
  split at hd
  · rename_i h
    cases hd
    exact turn k e G h p
  · cases hd
/-- a list that stands still -/
theorem seq_lst_sat {l : Nat} {xs : List D} {t : Tm} (hl : G.ob l = .lst xs) (P : Nat → Ev → Gh → Prop) (h0 : P 0 env G) (hs : ∀ i e G, P i e G → G.ob l = .lst xs)
    (turn : ∀ i d e G, xs[i]? = some d → P i e G → evQ (t d G e) fun e1 => (s e1 G).sat ⟨P (i + 1), q.rt, q.er, q.nx, P (i + 1)⟩) (done : ∀ e G, P xs.length e G → q.nx e G) :
    imQ (seqI (.ref l) G) fun it => (loopR it t s it.n 0 env G).sat q := by
  unfold seqI
  dsimp only
  rw [hl]
  exact loop_sat (xs := xs) P (fun i e G _ p => by show (match G.ob l with | .lst xs => some xs[i]? | _ => none) = _; rw [hs i e G p]) turn done _ 0 env G rfl h0
theorem seq_tup_sat {xs : List D} {t : Tm} (P : Nat → Ev → Gh → Prop) (h0 : P 0 env G)
    (turn : ∀ i d e G, xs[i]? = some d → P i e G → evQ (t d G e) fun e1 => (s e1 G).sat ⟨P (i + 1), q.rt, q.er, q.nx, P (i + 1)⟩) (done : ∀ e G, P xs.length e G → q.nx e G) :
    imQ (seqI (.tup xs) G) fun it => (loopR it t s it.n 0 env G).sat q := loop_sat (xs := xs) P (fun i e G _ p => rfl) turn done _ 0 env G rfl h0
theorem seq_str_sat {z : Str} {t : Tm} (P : Nat → Ev → Gh → Prop) (h0 : P 0 env G)
    (turn : ∀ i c e G, z.cps[i]? = some c → P i e G → evQ (t (.str ⟨#[c]⟩) G e) fun e1 => (s e1 G).sat ⟨P (i + 1), q.rt, q.er, q.nx, P (i + 1)⟩) (done : ∀ e G, P z.cps.size e G → q.nx e G) :
    imQ (seqI (.str z) G) fun it => (loopR it t s it.n 0 env G).sat q := by
  refine loop_sat (xs := z.cps.toList.map fun c => D.str ⟨#[c]⟩) P (fun i e G _ p => ?_) (fun i d e G hd p => ?_) (fun e G p => done e G (by simpa using p)) _ 0 env G (by simp) h0
  · show some (z.cps[i]?.map fun c => D.str ⟨#[c]⟩) = _
    rw [List.getElem?_map]
    simp
  · rw [List.getElem?_map] at hd
    obtain ⟨c, e1, e2⟩ := Option.map_eq_some_iff.mp hd
    subst e2
    exact turn i c e G (by simpa using e1) p
end
/-! ### the heap -/
theorem ob_set (G : Gh) (i j : Nat) (o : Ob) : (G.set i o).ob j = if j = i then o else G.ob j := rfl
theorem ob_push (G : Gh) (j : Nat) (o : Ob) : (G.push o).ob j = if j = G.n then o else G.ob j := rfl
theorem n_set (G : Gh) (i : Nat) (o : Ob) : (G.set i o).n = G.n := rfl
theorem n_push (G : Gh) (o : Ob) : (G.push o).n = G.n + 1 := rfl
theorem ob_set_same (G : Gh) (i : Nat) (o : Ob) : (G.set i o).ob i = o := if_pos rfl
theorem ob_push_same (G : Gh) (o : Ob) : (G.push o).ob G.n = o := if_pos rfl
theorem ob_set_ne (G : Gh) {i j : Nat} (o : Ob) (h : j ≠ i) : (G.set i o).ob j = G.ob j := if_neg h
theorem ob_push_ne (G : Gh) {j : Nat} (o : Ob) (h : j ≠ G.n) : (G.push o).ob j = G.ob j := if_neg h
theorem push_set (G : Gh) (o o' : Ob) : (G.push o).set G.n o' = G.push o' := by
  unfold Gh.push Gh.set
  congr 1
  funext j
  dsimp only
  split <;> rfl
/-- all that was there stands as it was -/
def Fr (G G' : Gh) : Prop := G.n ≤ G'.n ∧ ∀ j, j < G.n → G'.ob j = G.ob j
theorem Fr.refl (G : Gh) : Fr G G := ⟨Nat.le_refl _, fun _ _ => rfl⟩
theorem Fr.trans {G G1 G2 : Gh} (a : Fr G G1) (b : Fr G1 G2) : Fr G G2 := ⟨Nat.le_trans a.1 b.1, fun j h => (b.2 j (Nat.lt_of_lt_of_le h a.1)).trans (a.2 j h)⟩
theorem Fr.push (G : Gh) (o : Ob) : Fr G (G.push o) := ⟨Nat.le_succ _, fun j h => ob_push_ne G o (Nat.ne_of_lt h)⟩
theorem Fr.set {G G1 : Gh} (a : Fr G G1) {i : Nat} (o : Ob) (h : G.n ≤ i) : Fr G (G1.set i o) := ⟨a.1, fun j hj => (ob_set_ne G1 o (by omega)).trans (a.2 j hj)⟩
/-- .. but for those of l -/
def FrX (l : List Nat) (G G' : Gh) : Prop := G.n ≤ G'.n ∧ ∀ j, j < G.n → j ∉ l → G'.ob j = G.ob j
theorem Fr.x {G G' : Gh} (a : Fr G G') (l : List Nat) : FrX l G G' := ⟨a.1, fun j h _ => a.2 j h⟩
theorem FrX.refl (l : List Nat) (G : Gh) : FrX l G G := ⟨Nat.le_refl _, fun _ _ _ => rfl⟩
theorem FrX.trans {l : List Nat} {G G1 G2 : Gh} (a : FrX l G G1) (b : FrX l G1 G2) : FrX l G G2 := ⟨Nat.le_trans a.1 b.1, fun j h n => (b.2 j (Nat.lt_of_lt_of_le h a.1) n).trans (a.2 j h n)⟩
theorem FrX.set {l : List Nat} {G G1 : Gh} (a : FrX l G G1) {i : Nat} (o : Ob) (h : i ∈ l ∨ G.n ≤ i) : FrX l G (G1.set i o) := ⟨a.1, fun j hj n => (ob_set_ne G1 o (by
  rcases h with h | h
  · exact fun e => n (e ▸ h)
  · omega)).trans (a.2 j hj n)⟩
theorem FrX.push {l : List Nat} {G G1 : Gh} (a : FrX l G G1) (o : Ob) : FrX l G (G1.push o) := ⟨Nat.le_succ_of_le a.1, fun j hj n => (ob_push_ne G1 o (by have := a.1; omega)).trans (a.2 j hj n)⟩
end Mi
/-! P, part 2: the operations' answers, as equations. -/
namespace Mi
open PySem PySem.Spec PyProof.Rows L2
theorem eq_of_sat {α : Type} {r : Rs α} {a : α} {G : Gh} (h : r.sat (fun a' G' => a' = a ∧ G' = G) nE) : r = .ok a G := by
  cases r with
  | ok a' G' => obtain ⟨h1, h2⟩ := h; rw [h1, h2]
  | er c G' => exact h.elim
  | no => exact h.elim
section
variable {G : Gh} {i j : Int} {a b : Str} {xs ys : List D} {d e : D} {k l : Nat} {kvs : List (Key × D)} {p q : Bool}
theorem o_add : opAdd (.int i) (.int j) G = some (.int (i + j), G) := rfl
theorem o_adds (h : a.length + b.length ≤ sizeLine) : opAdd (.str a) (.str b) G = some (.str (a ++ b), G) := if_pos h
theorem o_sub : opSub (.int i) (.int j) G = some (.int (i - j), G) := rfl
theorem o_mul (h : CMul i j) : opMul (.int i) (.int j) G = some (.int (i * j), G) := if_pos h
theorem o_mod (h : 0 < j) : opMod (.int i) (.int j) G = some (.int (i % j), G) := if_pos h
theorem o_fdiv (h : 0 < j ∧ j.natAbs.log2 < 9000) : opFdiv (.int i) (.int j) G = some (.int (i / j), G) := if_pos h
theorem o_lt : opLt (.int i) (.int j) G = some (.bl (decide (i < j)), G) := rfl
theorem o_le : opLe (.int i) (.int j) G = some (.bl (decide (i ≤ j)), G) := rfl
theorem o_gt : opGt (.int i) (.int j) G = some (.bl (decide (j < i)), G) := rfl
theorem o_ge : opGe (.int i) (.int j) G = some (.bl (decide (j ≤ i)), G) := rfl
theorem o_les : opLe (.str a) (.str b) G = some (.bl (!decide (b.cps.toList < a.cps.toList)), G) := rfl
theorem o_eq : opEq (.int i) (.int j) G = some (.bl (decide (i = j)), G) := rfl
theorem o_ne : opNe (.int i) (.int j) G = some (.bl (!decide (i = j)), G) := rfl
theorem o_eqs : opEq (.str a) (.str b) G = some (.bl (decide (a = b)), G) := rfl
theorem o_nes : opNe (.str a) (.str b) G = some (.bl (!decide (a = b)), G) := rfl
theorem o_eqb : opEq (.bl p) (.bl q) G = some (.bl (decide (p = q)), G) := rfl
theorem o_neb : opNe (.bl p) (.bl q) G = some (.bl (!decide (p = q)), G) := rfl
theorem o_is : opIs d .non G = some (.bl (isNon d), G) := rfl
theorem o_isNot : opIsNot d .non G = some (.bl (!isNon d), G) := rfl
theorem o_iadd : opIadd (.int i) (.int j) G = some (.int (i + j), G) := rfl
theorem o_neg : opNeg (.int i) G = some (.int (-i), G) := rfl
theorem b_int : bInt [.int i] G = some (.int i, G) := rfl
theorem b_min : bMin [.int i, .int j] G = some (.int (if j < i then j else i), G) := rfl
theorem b_max : bMax [.int i, .int j] G = some (.int (if j > i then j else i), G) := rfl
theorem b_len (h : lenD d G = some k) : bLen [d] G = some (.int (k : Int), G) := by unfold bLen; dsimp only; rw [h]; rfl
theorem len_lst (h : G.ob l = .lst xs) : lenD (.ref l) G = some xs.length := by unfold lenD; dsimp only; rw [h]
theorem len_dct (h : G.ob l = .dct kvs) : lenD (.ref l) G = some kvs.length := by unfold lenD; dsimp only; rw [h]
theorem b_str (h : i.natAbs.log2 < 1920) : bStr [.int i] G = some (.str (toString i), G) := if_pos h
theorem b_list (h : G.ob l = .lst xs) : bList [.ref l] G = some (.ref G.n, G.push (.lst xs)) := by unfold bList itemsD; dsimp only; rw [h]; rfl
theorem b_tuple (h : G.ob l = .lst xs) : bTuple [.ref l] G = some (.tup xs, G) := by unfold bTuple itemsD; dsimp only; rw [h]; rfl
theorem m_append {y : D} (h : G.ob l = .lst xs) (hz : xs.length < sizeLine) : mAppend (.ref l) [y] G = some (.non, G.set l (.lst (xs ++ [y]))) := by unfold mAppend; dsimp only; rw [h]; dsimp only; rw [if_pos hz]
theorem m_clear (h : G.ob l = .lst xs) : mClear (.ref l) [] G = some (.non, G.set l (.lst [])) := by unfold mClear; dsimp only; rw [h]
theorem isLst_of (h : G.ob l = .lst xs) : isLst (.ref l) G = true := by unfold isLst; dsimp only; rw [h]
theorem ix_lst (h : G.ob l = .lst xs) (e : L2.atI xs i = some d) : opIx (.ref l) (.int i) G = some (d, G) := by unfold opIx ixD; dsimp only; rw [h]; dsimp only; rw [e]; rfl
theorem ix_tup (e : L2.atI xs i = some d) : opIx (.tup xs) (.int i) G = some (d, G) := by unfold opIx ixD; dsimp only; rw [e]; rfl
theorem ix_rol (e : L2.atI xs i = some d) : opIx (.rol xs) (.int i) G = some (d, G) := by unfold opIx ixD; dsimp only; rw [e]; rfl
theorem ix_dct {x : D} {kk : Key} (h : G.ob l = .dct kvs) (hk : keyD x = some kk) (e : valD kvs kk = some d) : opIx (.ref l) x G = some (d, G) := by unfold opIx ixD; dsimp only; rw [h]; dsimp only; rw [hk]; show Option.map _ (valD kvs kk) = _; rw [e]; rfl
theorem ix_lk {x : D} {kk : Key} (h : G.ob l = .lk kvs) (hk : keyD x = some kk) (e : valD kvs kk = some d) : opIx (.ref l) x G = some (d, G) := by unfold opIx ixD; dsimp only; rw [h]; dsimp only; rw [hk]; show Option.map _ (valD kvs kk) = _; rw [e]; rfl
theorem fld_of {na : Nat → Nat → Bool} {c f : Nat} {fs : List (Nat × D)} (h : G.ob l = .ins c fs) (hn : na c f = true) (e : valD fs f = some d) : fldO na f (.ref l) G = some d := by unfold fldO; dsimp only; rw [h]; dsimp only; rw [if_pos hn, e]
theorem setFld_ok {na : Nat → Nat → Bool} {c f : Nat} {fs : List (Nat × D)} (h : G.ob l = .ins c fs) (hn : na c f = true) (hz : fs.length < 1000) : setFldO na f (.ref l) d G = some (G.set l (.ins c (putD fs f d))) := by unfold setFldO; dsimp only; rw [h]; dsimp only; rw [if_pos ⟨hn, hz⟩]
theorem set_lst {kk : Nat} (h : G.ob l = .lst xs) (e : L2.ixN xs.length i = some kk) : setO (.ref l) (.int i) d G = some (G.set l (.lst (xs.set kk d))) := by unfold setO; dsimp only; rw [h]; dsimp only; rw [e]
theorem set_dct {x : D} {kk : Key} (h : G.ob l = .dct kvs) (hk : keyD x = some kk) (hz : kvs.length < sizeLine) : setO (.ref l) x d G = some (G.set l (.dct (putD kvs kk d))) := by unfold setO; dsimp only; rw [h]; dsimp only; rw [hk]; dsimp only; rw [if_pos hz]
theorem dct_ob (h : G.ob l = .dct kvs) : dctD (.ref l) G = some kvs := by unfold dctD; dsimp only; rw [h]
theorem ty_lst (h : G.ob l = .lst xs) : tyD (.ref l) G = some 5 := by unfold tyD; dsimp only; rw [h]
theorem atI_nat {xs : List D} {k : Nat} (h : k < xs.length) : L2.atI xs (k : Int) = some xs[k] := by
  unfold L2.atI L2.ixN
  rw [if_pos (by omega), if_pos (by omega)]
  show xs[(k : Int).toNat]? = _
  rw [Int.toNat_natCast, List.getElem?_eq_getElem h]
theorem sz1 {n : Nat} (h : n ≤ 1000000) : n ≤ sizeLine := Nat.le_trans h (by decide)
theorem sz2 {n : Nat} (h : n ≤ 1000000) : n < sizeLine := Nat.lt_of_le_of_lt h (by decide)
end
end Mi
/-! P, part 3: words added after k53. -/
namespace Mi
open PySem PySem.Spec PyProof.Rows L2
/-- `a if t else b` as a test -/
def bIf (n n1 n2 : Ev → M Bool) : Ev → M Bool := fun env G => (n env G).bind fun b G1 => if b = true then n1 env G1 else n2 env G1
def tIfB (t t1 t2 : TT) : TT := fun σ H Q => t σ H fun c H1 => if c = true then t1 σ H1 Q else t2 σ H1 Q
theorem pt_ifB {X : Cx} {c a b : Expr} {pos : Pos} {t t1 t2 : TT} (hc : PT X c t) (ha : PT X a t1) (hb : PT X b t2) : PT X (.IfExp c a b pos) (tIfB t t1 t2) := by
  refine ⟨fun pins s σ H Q I h => ?_⟩
  show wpAny (model X.prog X.w) X.A (do if ← isTrue c X.env (eval c X.env) then isTrue a X.env (eval a X.env) else isTrue b X.env (eval b X.env)) _ _ s
  refine wpAny_bind (wpAny_mono (hc.run pins s σ H _ I h) (fun d s1 z => ?_) fun _ _ x => x)
  obtain ⟨H1, I1, q1⟩ := z
  cases d with
  | true => exact ha.run pins s1 σ H1 Q I1 q1
  | false => exact hb.run pins s1 σ H1 Q I1 q1
theorem ft_ifB {X : Cx} {g : Tg} {W : WX} {c a b : Expr} {pos : Pos} {n n1 n2 : Ev → M Bool} (hc : FT X g W c n) (ha : FT X g W a n1) (hb : FT X g W b n2) : FT X g W (.IfExp c a b pos) (bIf n n1 n2) := by
  refine PT.imp (pt_ifB hc ha hb) ?_
  rintro σ H Q ⟨ρ, env, G, R, E, h⟩
  refine tT_run R E h.bind fun b G1 ρ1 H1 x1 R1 h1 => ?_
  cases b with
  | true => rw [if_pos rfl] at h1 ⊢; exact ⟨ρ1, env, G1, R1, E.ext x1, h1⟩
  | false => rw [if_neg Bool.false_ne_true] at h1 ⊢; exact ⟨ρ1, env, G1, R1, E.ext x1, h1⟩
theorem w_ifB {n n1 n2 : Ev → M Bool} {env : Ev} {G : Gh} {Q : Bool → Gh → Prop} {E : Nat → Gh → Prop} : (bIf n n1 n2 env G).sat Q E ↔ (n env G).sat (fun b G1 => if b = true then (n1 env G1).sat Q E else (n2 env G1).sat Q E) E := by
  unfold bIf
  rw [w_bind]
  cases n env G with
  | no => exact Iff.rfl
  | er c G => exact Iff.rfl
  | ok b G1 => cases b <;> exact Iff.rfl
end Mi
/-! P, part 4: methods of tuples, index, displays of dicts. -/
namespace Mi
open PySem PySem.Spec PyProof.Rows L2
/-! ### methods of tuples -/
section
variable {X : Cx} {g : Tg} {W : WX} {o e : Expr} {es : List Expr} {mo : Ev → M D} {ms : Ev → M (List D)} {apos cpos : Pos} {idn : String}
/-- of a module's tuple -/
def eMtC (f : OM) (d : D) (n : Ev → M (List D)) : Ev → M D := fun env G => (n env G).bind fun ds G1 => lift (f d ds G1)
theorem fe_tmtC {f : OM} {name x : Str} {ds : List D} {p : Pos} (hg : Gl X x) (hx : ∃ a, X.mg x = some (.ref a) ∧ (∃ o, X.K.lookup a = some o ∧ o.cls = .type "tuple" ∧ o.dict = none) ∧ ∀ ρ H, RV X.K g ρ H (.tup ds) (.ref a))
    (slot : Slot "tuple" name idn) (hty : typeOf (.builtin idn) = pure (.type "method_descriptor")) (hm : MtF X g idn f) (ha : FA X g W (e :: es) ms) (hd : (x == ("__debug__" : Str)) = false := by decide)
    (hbase : attributeBase (.Name x p) name X.env (eval (.Name x p) X.env) = eval (.Name x p) X.env := by rfl)
    (hfew : ((backTo cpos (starEach (e :: es) X.env)).all (fun x => !x.1) && (backToKw cpos (keywordEach [] X.env)).all (fun x => x.1.isSome)
      && decide ((e :: es).length + ([] : List Keyword).length + (if ([] : List Keyword).isEmpty then 0 else 1) < 30)) = true := by rfl)
    (hline : (apos.endLine == cpos.line) = true := by rfl) (hs : starEach (e :: es) X.env = (false, eval e X.env) :: starEach es X.env := by rfl) (hplain : (backTo cpos (starEach es X.env)).any (·.1) = false := by rfl) :
    FE X g W (.Call (.Attribute (.Name x p) name apos) (e :: es) [] cpos) (eMtC f (.tup ds) ms) := by
  obtain ⟨a, hx1, hx2, hx3⟩ := hx
  refine PE.imp (pe_bm PySem.F.plainAttrs_tuple slot hty hm (pe_glob hg hx1 (v := .ref a) rfl hd) ha hbase hfew hline hs hplain) ?_
  rintro σ H Q ⟨ρ, env, G, R, E, h⟩
  refine ⟨.inr (.inl ⟨rfl, hx2⟩), tA_run R E h.bind fun vs G2 ρ2 H2 x2 R2 h2 ws r2 => ?_⟩
  obtain ⟨d', G', e, k⟩ := h2.lift
  exact ⟨ρ2, G2, .tup ds, vs, R2, hx3 ρ2 H2, r2, d', G', e, fun v ρ' H' x' R' r' => k ρ' H' x' R' v r'⟩
/-! ### index -/
def strsD : List D → Option (List Str)
  | [] => some []
  | .str x :: r => (strsD r).map fun l => x :: l
  | _ => none
theorem strs_of {K : PySem.W.Frag} {ρ : List Addr} {H : Hp} : ∀ {ds : List D} {vs : List V} {l : List Str}, RVs K g ρ H ds vs → strsD ds = some l → vs = l.map V.str
  | [], vs, l, r, e => by cases e; rw [RVs] at r; exact r
  | d :: ds, vs, l, r, e => by
    rw [RVs] at r
    obtain ⟨v, q, e1, r1, r2⟩ := r
    cases d with
    | str i =>
      obtain ⟨l', e2, e3⟩ := Option.map_eq_some_iff.mp e
      subst e3
      cases (show v = .str i from r1)
      rw [e1, strs_of r2 e2]
      rfl
    | _ => cases e
def idxD (xs : List D) (ds : List D) : Option Nat := match ds with
  | [.str z] => (strsD xs).bind fun ys => ys.findIdx? fun y => decide (y = z)
  | _ => none
def mIndexT : OM := fun d ds G => match d with
  | .tup xs => (idxD xs ds).map fun (j : Nat) => (.int (j : Int), G)
  | _ => none
def mIndex : OM := fun d ds G => match d with
  | .ref l => (match G.ob l with
    | .lst xs => (idxD xs ds).map fun (j : Nat) => (.int (j : Int), G)
    | _ => none)
  | _ => none
theorem idx_of {K : PySem.W.Frag} {ρ : List Addr} {H : Hp} {xs ds : List D} {vs us : List V} {j : Nat} (r1 : RVs K g ρ H xs vs) (r2 : RVs K g ρ H ds us) (h : idxD xs ds = some j) :
    ∃ (ys : List Str) (z : Str), vs = ys.map V.str ∧ us = [.str z] ∧ ys[j]? = some z ∧ ∀ m, m < j → ys[m]? ≠ some z := by
  unfold idxD at h
  split at h
  · rename_i z
    obtain ⟨ys, e1, e2⟩ := Option.bind_eq_some_iff.mp h
    obtain ⟨h1, h2, h3⟩ := List.findIdx?_eq_some_iff_getElem.mp e2
    obtain ⟨v, rfl, rv⟩ := r2.one
    cases (show v = .str z from rv)
    refine ⟨ys, z, strs_of r1 e1, rfl, by rw [List.getElem?_eq_getElem h1, of_decide_eq_true h2], fun m hm e => ?_⟩
    have := h3 m hm
    rw [List.getElem?_eq_getElem (Nat.lt_trans hm h1)] at e
    exact this (decide_eq_true (Option.some.inj e))
  · cases h
theorem mf_indexT : MtF X g "tuple.index" mIndexT := by
  refine MtR.imp mt_tup_index ?_
  rintro x vs H Q ⟨ρ, G, d, ds, R, rd, rs, d', G', e, k⟩
  unfold mIndexT at e
  split at e
  · rename_i xs
    obtain ⟨j, e1, e2⟩ := Option.map_eq_some_iff.mp e
    cases e2
    rw [RV] at rd
    obtain ⟨a, ws, rfl, s, q⟩ := rd
    obtain ⟨ys, z, rfl, rfl, h1, h2⟩ := idx_of q rs e1
    exact ⟨a, ys, z, j, rfl, rfl, s, h1, h2, k _ ρ H (.refl _ _) R rfl⟩
  · cases e
theorem mf_index : MtF X g "list.index" mIndex := by
  refine MtR.imp mt_index ?_
  rintro x vs H Q ⟨ρ, G, d, ds, R, rd, rs, d', G', e, k⟩
  unfold mIndex at e
  split at e
  · rename_i l
    split at e
    · rename_i xs ho
      obtain ⟨j, e1, e2⟩ := Option.map_eq_some_iff.mp e
      cases e2
      rw [RV] at rd
      obtain ⟨a, q, rfl⟩ := rd
      have ob := R.obj _ _ q
      rw [ho] at ob
      obtain ⟨ws, hp, r⟩ := ob
      obtain ⟨ys, z, rfl, rfl, h1, h2⟩ := idx_of r rs e1
      refine ⟨a, ys.map V.str, .str z, j, .str z, rfl, rfl, .of hp, rfl, flat_strs ys, by rw [List.getElem?_map, h1]; rfl, ?_, fun m z' hm hz' => ?_, k _ ρ H (.refl _ _) R rfl⟩
      · show (z == z) = true
        exact beq_self_eq_true z
      · rw [List.getElem?_map] at hz'
        obtain ⟨y, hy, rfl⟩ := Option.map_eq_some_iff.mp hz'
        show (y == z) = false
        refine beq_eq_false_iff_ne.mpr fun e => h2 m hm ?_
        rw [hy, e]
    · cases e
  · cases e
theorem fe_index (ho : FE X g W o mo) (ha : FA X g W [e] ms)
    (q1 : attributeBase o "index" X.env (eval o X.env) = eval o X.env := by rfl)
    (q2 : ((backTo cpos (starEach [e] X.env)).all (fun x => !x.1) && (backToKw cpos (keywordEach [] X.env)).all (fun x => x.1.isSome)
      && decide (([e] : List Expr).length + ([] : List Keyword).length + (if ([] : List Keyword).isEmpty then 0 else 1) < 30)) = true := by rfl)
    (q3 : (apos.endLine == cpos.line) = true := by rfl) (q4 : starEach [e] X.env = (false, eval e X.env) :: starEach [] X.env := by rfl) (q5 : (backTo cpos (starEach [] X.env)).any (·.1) = false := by rfl) :
    FE X g W (.Call (.Attribute o "index" apos) [e] [] cpos) (eMt mIndex mo ms) := fe_lmt PySem.F.slot_list_index PySem.F.type_list_index mf_index ho ha q1 q2 q3 q4 q5
theorem fe_indexT {x : Str} {ds : List D} {p : Pos} (G : GlN X x) (hx : ∃ a, X.mg x = some (.ref a) ∧ (∃ o, X.K.lookup a = some o ∧ o.cls = .type "tuple" ∧ o.dict = none) ∧ ∀ ρ H, RV X.K g ρ H (.tup ds) (.ref a)) (ha : FA X g W [e] ms)
    (q1 : attributeBase (.Name x p) "index" X.env (eval (.Name x p) X.env) = eval (.Name x p) X.env := by rfl)
    (q2 : ((backTo cpos (starEach [e] X.env)).all (fun x => !x.1) && (backToKw cpos (keywordEach [] X.env)).all (fun x => x.1.isSome)
      && decide (([e] : List Expr).length + ([] : List Keyword).length + (if ([] : List Keyword).isEmpty then 0 else 1) < 30)) = true := by rfl)
    (q3 : (apos.endLine == cpos.line) = true := by rfl) (q4 : starEach [e] X.env = (false, eval e X.env) :: starEach [] X.env := by rfl) (q5 : (backTo cpos (starEach [] X.env)).any (·.1) = false := by rfl) :
    FE X g W (.Call (.Attribute (.Name x p) "index" apos) [e] [] cpos) (eMtC mIndexT (.tup ds) ms) := fe_tmtC G.gl hx PySem.F.slot_tuple_index PySem.F.type_tuple_index mf_indexT ha G.nd q1 q2 q3 q4 q5
/-! ### a display of a dict -/
def aPrs : List ((Ev → M D) × (Ev → M D)) → Ev → M (List (D × D))
  | [] => fun _ G => .ok [] G
  | m :: r => fun env G => (m.1 env G).bind fun x G1 => (m.2 env G1).bind fun y G2 => (aPrs r env G2).bind fun ps G3 => .ok ((x, y) :: ps) G3
def keysD : List (D × D) → Option (List (Key × D))
  | [] => some []
  | p :: r => (match keyD p.1, keysD r with
    | some k, some t => some ((k, p.2) :: t)
    | _, _ => none)
def mrgD (acc kvs : List (Key × D)) : List (Key × D) := kvs.foldl (fun a p => putD a p.1 p.2) acc
def eDctN (ms : List ((Ev → M D) × (Ev → M D))) : Ev → M D := fun env G => (aPrs ms env (G.push (.dct []))).bind fun ps G1 => match G1.ob G.n, keysD ps with
  | .dct [], some kvs => if kvs.length ≤ 15 then .ok (.ref G.n) (G1.set G.n (.dct (mrgD [] kvs))) else .no
  | _, _ => .no
def RPs (K : PySem.W.Frag) (g : Tg) (ρ : List Addr) (H : Hp) : List (D × D) → List (V × V) → Prop
  | [], vs => vs = []
  | p :: r, vs => ∃ a t, vs = a :: t ∧ RV K g ρ H p.1 a.1 ∧ RV K g ρ H p.2 a.2 ∧ RPs K g ρ H r t
theorem prs_run {K : PySem.W.Frag} {σ : St} {env : Ev} : ∀ (ms : List ((Ev → M D) × (Ev → M D))) {ρ : List Addr} {H : Hp} {G : Gh} {P : List (D × D) → Gh → List Addr → Hp → Prop} {Q : List (V × V) → Hp → Prop}, Rep K g ρ G H → RE K g ρ H env σ → Po K g W σ ρ H (aPrs ms env G) P →
    (∀ ps G' ρ' H', Ext ρ H ρ' H' → Rep K g ρ' G' H' → P ps G' ρ' H' → ∀ vs, RPs K g ρ' H' ps vs → Q vs H') → tPairs (ms.map fun m => (tE K g W m.1, tE K g W m.2)) σ H Q
  | [], ρ, H, G, P, Q, R, E, h, k => k [] G ρ H (.refl _ _) R (h.now R) [] rfl
  | m :: ms, ρ, H, G, P, Q, R, E, h, k =>
    tE_run R E h.bind fun x G1 ρ1 H1 x1 R1 h1 v1 r1 => tE_run R1 (E.ext x1) h1.bind fun y G2 ρ2 H2 x2 R2 h2 v2 r2 =>
      prs_run ms R2 ((E.ext x1).ext x2) h2.bind fun ps G3 ρ3 H3 x3 R3 h3 vs rs => k _ _ _ _ ((x1.trans x2).trans x3) R3 (h3.now R3) _ ⟨(v1, v2), vs, rfl, (r1.ext x2).ext x3, r2.ext x3, rs⟩
theorem keys_of {K : PySem.W.Frag} {ρ : List Addr} {H : Hp} : ∀ {ps : List (D × D)} {vs : List (V × V)} {kvs : List (Key × D)}, RPs K g ρ H ps vs → keysD ps = some kvs → ∃ ws : List (Key × V), vs = ws.map (fun kv => (kV kv.1, kv.2)) ∧ RM K g ρ H id kvs ws ∧ ws.length = kvs.length
  | [], vs, kvs, r, e => by
    cases e
    rw [RPs] at r
    exact ⟨[], r, by rw [RM], rfl⟩
  | p :: ps, vs, kvs, r, e => by
    rw [RPs] at r
    obtain ⟨a, t, rfl, r1, r2, r3⟩ := r
    rw [keysD] at e
    split at e
    · rename_i k t' e1 e2
      cases e
      obtain ⟨ws, rfl, q1, q2⟩ := keys_of r3 e2
      refine ⟨(k, a.2) :: ws, ?_, ?_, by rw [List.length_cons, List.length_cons, q2]⟩
      · rw [List.map_cons, ← key_of' r1 e1]
      · rw [RM]; exact ⟨a.2, ws, rfl, r2, q1⟩
    · cases e
theorem RM.mrg {K : PySem.W.Frag} {ρ : List Addr} {H : Hp} : ∀ {kvs : List (Key × D)} {ws : List (Key × V)} {acc : List (Key × D)} {as : List (Key × V)}, RM K g ρ H id kvs ws → RM K g ρ H id acc as → (acc.map (·.1)).Nodup → RM K g ρ H id (mrgD acc kvs) (mergeK as ws) ∧ ((mrgD acc kvs).map (·.1)).Nodup
  | [], ws, acc, as, r, ra, nd => by
    rw [RM] at r
    subst r
    exact ⟨ra, nd⟩
  | (k, d) :: kvs, ws, acc, as, r, ra, nd => by
    rw [RM] at r
    obtain ⟨v, q, rfl, r1, r2⟩ := r
    exact RM.mrg (acc := putD acc k d) (as := putK as k v) r2 (RM.put r1 ra nd) (putD_nodup nd)
abbrev FPs (X : Cx) (g : Tg) (W : WX) (pos : Pos) (keys : List (Option Expr)) (values : List Expr) (ms : List ((Ev → M D) × (Ev → M D))) : Prop := PPs X pos keys values (ms.map fun m => (tE X.K g W m.1, tE X.K g W m.2))
theorem fps_nil {pos : Pos} : FPs X g W pos [] [] [] := pps_nil
theorem fps_cons {pos : Pos} {k v : Expr} {ks : List (Option Expr)} {vs : List Expr} {mk mv : Ev → M D} {ms : List ((Ev → M D) × (Ev → M D))} (hk : FE X g W k mk) (hv : FE X g W v mv) (hr : FPs X g W pos ks vs ms) : FPs X g W pos (some k :: ks) (v :: vs) ((mk, mv) :: ms) := pps_cons hk hv hr
theorem fe_dctN {pos : Pos} {keys : List (Option Expr)} {values : List Expr} {ms : List ((Ev → M D) × (Ev → M D))} (h : FPs X g W pos keys values ms) (hall : keys.all (·.isSome) = true := by rfl) (hl : keys.length = values.length := by rfl) (h0 : keys ≠ [] := by simp) (h15 : keys.length ≤ 15 := by decide) : FE X g W (.Dict keys values pos) (eDctN ms) := by
  refine PE.imp (pe_disp h hall hl h0 h15) ?_
  rintro σ H Q ⟨ρ, env, G, R, E, h⟩ p hp
  have x : Ext ρ H (ρ ++ [p]) (upd H p (.dK [])) := ⟨fun i a e => by rw [List.getElem?_append_left (List.getElem?_eq_some_iff.mp e).1]; exact e, .new hp⟩
  obtain ⟨R', _, q⟩ := R.new (ob := .dct []) hp ⟨[], upd_same, by rw [RM], List.nodup_nil⟩
  refine prs_run ms R' (E.ext x) (h.start x).bind fun ps G1 ρ1 H1 x1 R1 h1 vs rs => ?_
  split at h1
  · rename_i kvs ho hk
    split at h1
    · rename_i hz
      have q1 := x1.pre _ _ q
      have ob := R1.obj _ _ q1
      rw [ho] at ob
      obtain ⟨ws0, hp0, r0, _⟩ := ob
      rw [RM] at r0
      subst r0
      obtain ⟨ws, rfl, r1, hl1⟩ := keys_of rs hk
      refine ⟨hp0, ws, rfl, by omega, ?_⟩
      obtain ⟨m1, m2⟩ := RM.mrg (acc := []) (as := []) r1 (by rw [RM]) List.nodup_nil
      obtain ⟨R2, x2⟩ := R1.write (o := .dK (mergeK [] ws)) (ob := .dct (mrgD [] kvs)) q1 (by rw [ho]; rfl) fun x => ⟨_, upd_same, m1.ext x, m2⟩
      exact h1 _ _ x2 R2 _ (by rw [RV]; exact ⟨p, q1, rfl⟩)
    · exact h1.elim
  · exact h1.elim
end
/-! ### the words -/
section
variable {env : Ev} {G : Gh} {Q : D → Gh → Prop} {E : Nat → Gh → Prop} {ma : Ev → M D} {ms : Ev → M (List D)}
theorem w_mtC {f : OM} {d : D} : (eMtC f d ms env G).sat Q E ↔ (ms env G).sat (fun ds G1 => opQ (f d ds G1) Q) E := by
  unfold eMtC
  rw [w_bind]
  cases ms env G with
  | ok ds G1 => exact w_lift
  | _ => exact Iff.rfl
theorem w_dctN {ps : List ((Ev → M D) × (Ev → M D))} : (eDctN ps env G).sat Q E ↔ (aPrs ps env (G.push (.dct []))).sat (fun qs G1 => ((match G1.ob G.n, keysD qs with
  | .dct [], some kvs => if kvs.length ≤ 15 then Rs.ok (.ref G.n) (G1.set G.n (.dct (mrgD [] kvs))) else .no
  | _, _ => .no) : Rs D).sat Q E) E := w_bind
end
end Mi

namespace Lw
open PySem PySem.Spec PyProof.Rows L2 Mi
/-! ### the mirrors -/
def naL : List (Nat × Nat) := [(8, 0), (8, 1), (8, 2), (8, 3), (8, 4), (8, 5), (8, 6), (8, 7), (8, 8), (9, 9), (9, 10), (9, 11), (9, 12)]
def na (c f : Nat) : Bool := naOf naL c f
def c_ROLES : D := (.tup [(.str "teller"), (.str "officer"), (.str "chief")])
def sb_0 : Nat → Option Bool := sbOf [(0, true), (1, true), (2, true), (3, true), (4, true), (5, true), (6, true), (7, true)]
def tab_BadValue : List (Nat × Bool) := [(0, false), (1, true), (2, false), (3, false), (4, false), (5, false), (6, false), (7, false)]
def tab_BadDay : List (Nat × Bool) := [(0, false), (1, false), (2, true), (3, false), (4, false), (5, false), (6, false), (7, false)]
def tab_Missing : List (Nat × Bool) := [(0, false), (1, false), (2, false), (3, true), (4, false), (5, false), (6, false), (7, false)]
def tab_Refused : List (Nat × Bool) := [(0, false), (1, false), (2, false), (3, false), (4, true), (5, false), (6, false), (7, false)]
def tab_Full : List (Nat × Bool) := [(0, false), (1, false), (2, false), (3, false), (4, false), (5, true), (6, false), (7, false)]
def tab_NotAllowed : List (Nat × Bool) := [(0, false), (1, false), (2, false), (3, false), (4, false), (5, false), (6, true), (7, false)]
def tab_Damaged : List (Nat × Bool) := [(0, false), (1, false), (2, false), (3, false), (4, false), (5, false), (6, false), (7, true)]
def tab_ValueError : List (Nat × Bool) := [(0, true), (1, true), (2, true), (3, true), (4, true), (5, true), (6, true), (7, true)]
def q_law_numbers_1 : Sm := sSeq (sDrop (eMt mAppend (eVar 4) (aCons (eOp opMod (eB bInt (aCons (eVar 3) aNil)) (eC (.int 4000000007))) aNil))) (sAsg (gmN 3) (eOp opFdiv (eVar 3) (eC (.int 4000000007))))
def q_law_numbers_3 : Sm := sSeq (sAsg (gmN 6) (eOp opMul (eOp opMul (eOp opAdd (eOp opMod (eB bInt (aCons (eVar 6) aNil)) (eC (.int 46337))) (eC (.int 1))) (eOp opAdd (eOp opAdd (eOp opFdiv (eVar 6) (eC (.int 46337))) (eOp opMul (eC (.int 3)) (eVar 5))) (eC (.int 1)))) (eC (.int 16807)))) (sDrop (eMt mAppend (eVar 4) (aCons (eOp opFdiv (eOp opMod (eB bInt (aCons (eVar 6) aNil)) (eC (.int 2147483629))) (eC (.int 32))) aNil)))
def q_law_numbers_2 : Sm := sSeq (sAsg (gmN 6) (eOp opMod (eB bInt (aCons (eOp opAdd (eOp opAdd (eOp opMul (eVar 2) (eC (.int 48271))) (eOp opMul (eVar 5) (eC (.int 69621)))) (eC (.int 11))) aNil)) (eC (.int 2147483647)))) q_law_numbers_3
def q_law_numbers_9 : Sm := sSeq (sFor (iRng1' (aCons (eVar 1) aNil)) (gmN 5)
      (sIf (asB (eOp opGt (eVar 3) (eC (.int 0)))) q_law_numbers_1 q_law_numbers_2)) (sRet (eVar 4))
def q_law_numbers_8 : Sm := sSeq (sAsg (gmN 4) (eLst aNil)) q_law_numbers_9
def q_law_numbers_7 : Sm := sSeq (sIf (asB (eOp opGe (eVar 2) (eOp opPow (eC (.int 10)) (eC (.int 18))))) (sAsg (gmN 3) (eVar 2)) sNx) q_law_numbers_8
def q_law_numbers_6 : Sm := sSeq (sAsg (gmN 3) (eC (.int 0))) q_law_numbers_7
def q_law_numbers_5 : Sm := sSeq (sIf (asB (eOp opLt (eVar 2) (eC (.int 0)))) (sAsg (gmN 2) (eOp opSub (eOp opSub (eC (.int 0)) (eVar 2)) (eC (.int 1)))) sNx) q_law_numbers_6
def q_law_numbers_4 : Sm := sSeq (sAsg (gmN 2) (eOp opMul (eC (.int 2)) (eB bInt (aCons (eVar 0) aNil)))) q_law_numbers_5
def b_law_numbers : Sm := q_law_numbers_4
def m_law_numbers : List D → M D := mFun 2 7 b_law_numbers
def q_law_name_1 : Sm := sSeq (sAsg (gmN 3) (eOp opAdd (eVar 3) (eOp opIx (eVar 2) (eOp opMod (eB bInt (aCons (eOp opAdd (eVar 4) (eOp opMul (eC (.int 7)) (eVar 5))) aNil)) (eC (.int 36)))))) (sAsg (gmN 4) (eOp opFdiv (eVar 4) (eC (.int 36))))
def q_law_name_5 : Sm := sSeq (sFor (iRng1' (aCons (eOp opSub (eVar 1) (eC (.int 1))) aNil)) (gmN 5)
      q_law_name_1) (sRet (eVar 3))
def q_law_name_4 : Sm := sSeq (sAsg (gmN 4) (eOp opFdiv (eVar 0) (eC (.int 26)))) q_law_name_5
def q_law_name_3 : Sm := sSeq (sAsg (gmN 3) (eOp opIx (eVar 2) (eOp opMod (eB bInt (aCons (eVar 0) aNil)) (eC (.int 26))))) q_law_name_4
def q_law_name_2 : Sm := sSeq (sAsg (gmN 2) (eC (.str "abcdefghijklmnopqrstuvwxyz0123456789"))) q_law_name_3
def b_law_name : Sm := q_law_name_2
def m_law_name : List D → M D := mFun 2 6 b_law_name
def q_law_other_2 : Sm := sSeq (sIf (asB (eOp opEq (eOp opIx (eVar 0) (eVar 4)) (eVar 2))) (sRet (eOp opAdd (eOp opAdd (eSl (eVar 0) pNone (pSome (eVar 4))) (eVar 3)) (eSl (eVar 0) (pSome (eOp opAdd (eVar 4) (eC (.int 1)))) pNone))) sNx) (sRet (eOp opAdd (eOp opAdd (eSl (eVar 0) pNone (pSome (eVar 4))) (eVar 2)) (eSl (eVar 0) (pSome (eOp opAdd (eVar 4) (eC (.int 1)))) pNone)))
def q_law_other_1 : Sm := sSeq (sAsg (gmN 4) (eOp opMod (eB bInt (aCons (eVar 1) aNil)) (eB bLen (aCons (eVar 0) aNil)))) q_law_other_2
def b_law_other : Sm := q_law_other_1
def m_law_other : List D → M D := mFun 4 5 b_law_other
def q_law_users_3 : Sm := sSeq (sFor (iRng1' (aCons (eC (.int 5)) aNil)) (gmN 3)
      (sDrop (eMt mAppend (eVar 2) (aCons (eCall m_law_other (aCons (eVar 1) (aCons (eOp opIx (eVar 0) (eOp opAdd (eC (.int 2)) (eVar 3))) (aCons (eOp opIx (eC (.str "abcde")) (eVar 3)) (aCons (eOp opIx (eC (.str "fghij")) (eVar 3)) aNil))))) aNil)))) (sRet (eVar 2))
def q_law_users_2 : Sm := sSeq (sAsg (gmN 2) (eLst (aCons (eVar 1) aNil))) q_law_users_3
def q_law_users_1 : Sm := sSeq (sAsg (gmN 1) (eCall m_law_name (aCons (eOp opIx (eVar 0) (eC (.int 0))) (aCons (eOp opAdd (eC (.int 2)) (eOp opMod (eB bInt (aCons (eOp opIx (eVar 0) (eC (.int 1))) aNil)) (eC (.int 11)))) aNil)))) q_law_users_2
def b_law_users : Sm := q_law_users_1
def m_law_users : List D → M D := mFun 1 4 b_law_users
def q_Orders_init_3 : Sm := sSeq (sFld na 11 (eVar 0) (eLst aNil)) (sFld na 12 (eVar 0) eDct0)
def q_Orders_init_2 : Sm := sSeq (sFld na 10 (eVar 0) eDct0) q_Orders_init_3
def q_Orders_init_1 : Sm := sSeq (sFld na 9 (eVar 0) eDct0) q_Orders_init_2
def b_Orders_init : Sm := q_Orders_init_1
def m_Orders_init : List D → M D := mFun 1 1 b_Orders_init
def q_is_name_1 : Sm := sSeq (sIf (bOr (bNot (asB (eChain opLe opLe (eC (.int 1)) (eB bLen (aCons (eVar 0) aNil)) (eC (.int 12))))) (asB (eOp opNotIn (eOp opIx (eVar 0) (eC (.int 0))) (eC (.str "abcdefghijklmnopqrstuvwxyz"))))) (sRet (eC (.bl false))) sNx) (sRet (eB bAll (aCons (eLc (iSeq (eVar 0)) (gmN 1) bYes (eOrV (eOp opIn (eVar 1) (eC (.str "abcdefghijklmnopqrstuvwxyz"))) (eOp opIn (eVar 1) (eC (.str "0123456789")))) [1]) aNil)))
def b_is_name : Sm := q_is_name_1
def m_is_name : List D → M D := mFun 1 2 b_is_name
def b_check_name : Sm := (sIf (bNot (tru (eCall m_is_name (aCons (eVar 0) aNil)))) (sRaise 1) sNx)
def m_check_name : List D → M D := mFun 1 1 b_check_name
def q_Orders_add_user_3 : Sm := sSeq (sIf (asB (eOp opIn (eVar 1) (eFld na 9 (eVar 0)))) (sRaise 4) sNx) (sSub (eFld na 9 (eVar 0)) (eVar 1) (eVar 2))
def q_Orders_add_user_2 : Sm := sSeq (sIf (asB (eOp opNotIn (eVar 2) (eC c_ROLES))) (sRaise 1) sNx) q_Orders_add_user_3
def q_Orders_add_user_1 : Sm := sSeq (sDrop (eCall m_check_name (aCons (eVar 1) aNil))) q_Orders_add_user_2
def b_Orders_add_user : Sm := q_Orders_add_user_1
def m_Orders_add_user : List D → M D := mFun 3 3 b_Orders_add_user
def q_check_rule_3 : Sm := sSeq (sIf (asB (eOp opNotIn (eVar 4) (eC c_ROLES))) (sRaise 1) sNx) (sAsg (gmN 1) (eVar 2))
def q_check_rule_2 : Sm := sSeq (sIf (bNot (asB (eChain opLe opLe (eC (.int 0)) (eVar 3) (eC (.int 5))))) (sRaise 1) sNx) q_check_rule_3
def q_check_rule_1 : Sm := sSeq (sIf (bOr (asB (eOp opLe (eVar 2) (eVar 1))) (bOr (asB (eOp opGt (eVar 2) (eC (.int 1000000000)))) (bAnd (asB (eOp opLt (eVar 1) (eC (.int 0)))) (asB (eOp opNe (eVar 2) (eC (.int 0))))))) (sRaise 1) sNx) q_check_rule_2
def q_check_rule_5 : Sm := sSeq (sAsg (gmN 1) (eUn opNeg (eC (.int 1)))) (sFor (iSeq (eVar 0)) (gmT ((gmN 2) :: ((gmN 3) :: ((gmN 4) :: []))))
      q_check_rule_1)
def q_check_rule_4 : Sm := sSeq (sIf (bNot (asB (eChain opLe opLe (eC (.int 1)) (eB bLen (aCons (eVar 0) aNil)) (eC (.int 6))))) (sRaise 1) sNx) q_check_rule_5
def b_check_rule : Sm := q_check_rule_4
def m_check_rule : List D → M D := mFun 1 5 b_check_rule
def q_Orders_set_rule_2 : Sm := sSeq (sDrop (eCall m_check_rule (aCons (eVar 2) aNil))) (sSub (eFld na 10 (eVar 0)) (eVar 1) (eB bTuple (aCons (eVar 2) aNil)))
def q_Orders_set_rule_1 : Sm := sSeq (sDrop (eCall m_check_name (aCons (eVar 1) aNil))) q_Orders_set_rule_2
def b_Orders_set_rule : Sm := q_Orders_set_rule_1
def m_Orders_set_rule : List D → M D := mFun 3 3 b_Orders_set_rule
def b_is_amount : Sm := (sRet (eChain opLe opLe (eC (.int 1)) (eVar 0) (eC (.int 1000000000))))
def m_is_amount : List D → M D := mFun 1 1 b_is_amount
def b_is_day : Sm := (sRet (eChain opLe opLe (eC (.int 0)) (eVar 0) (eC (.int 36524))))
def m_is_day : List D → M D := mFun 1 1 b_is_day
def q_Orders_check_place_4 : Sm := sSeq (sIf (bNot (asB (eChain opLe opLe (eC (.int 1)) (eB bLen (aCons (eVar 4) aNil)) (eC (.int 20))))) (sRaise 1) sNx) (sIf (bNot (tru (eCall m_is_day (aCons (eVar 5) aNil)))) (sRaise 2) sNx)
def q_Orders_check_place_3 : Sm := sSeq (sIf (bNot (tru (eCall m_is_amount (aCons (eVar 3) aNil)))) (sRaise 1) sNx) q_Orders_check_place_4
def q_Orders_check_place_2 : Sm := sSeq (sDrop (eCall m_check_name (aCons (eVar 2) aNil))) q_Orders_check_place_3
def q_Orders_check_place_1 : Sm := sSeq (sIf (asB (eOp opNotIn (eVar 1) (eFld na 9 (eVar 0)))) (sRaise 6) sNx) q_Orders_check_place_2
def b_Orders_check_place : Sm := q_Orders_check_place_1
def m_Orders_check_place : List D → M D := mFun 6 6 b_Orders_check_place
def b_Orders_by_key : Sm := (sRet (eGet1 (eFld na 12 (eVar 0)) (eVar 1)))
def m_Orders_by_key : List D → M D := mFun 2 2 b_Orders_by_key
def q_Order_init_8 : Sm := sSeq (sFld na 7 (eVar 0) (eLst aNil)) (sFld na 8 (eVar 0) (eC (.str "ready")))
def q_Order_init_7 : Sm := sSeq (sFld na 6 (eVar 0) (eC .non)) q_Order_init_8
def q_Order_init_6 : Sm := sSeq (sFld na 5 (eVar 0) (eC (.int 0))) q_Order_init_7
def q_Order_init_5 : Sm := sSeq (sFld na 4 (eVar 0) (eVar 5)) q_Order_init_6
def q_Order_init_4 : Sm := sSeq (sFld na 3 (eVar 0) (eVar 4)) q_Order_init_5
def q_Order_init_3 : Sm := sSeq (sFld na 2 (eVar 0) (eVar 3)) q_Order_init_4
def q_Order_init_2 : Sm := sSeq (sFld na 1 (eVar 0) (eVar 2)) q_Order_init_3
def q_Order_init_1 : Sm := sSeq (sFld na 0 (eVar 0) (eVar 1)) q_Order_init_2
def b_Order_init : Sm := q_Order_init_1
def m_Order_init : List D → M D := mFun 6 6 b_Order_init
def q_Orders_row_for_2 : Sm := sSeq (sFor (iSeq (eGet2 (eFld na 10 (eVar 0)) (eVar 1) (eTup aNil))) (gmT ((gmN 4) :: ((gmN 5) :: ((gmN 6) :: []))))
      (sIf (asB (eOp opLe (eVar 4) (eVar 2))) (sAsg (gmN 3) (eTup (aCons (eVar 5) (aCons (eVar 6) aNil)))) sNx)) (sRet (eVar 3))
def q_Orders_row_for_1 : Sm := sSeq (sAsg (gmN 3) (eTup (aCons (eC (.int 0)) (aCons (eC .non) aNil)))) q_Orders_row_for_2
def b_Orders_row_for : Sm := q_Orders_row_for_1
def m_Orders_row_for : List D → M D := mFun 3 7 b_Orders_row_for
def q_Order_require_2 : Sm := sSeq (sFld na 6 (eVar 0) (eVar 2)) (sFld na 8 (eVar 0) (eC (.str "waiting")))
def q_Order_require_1 : Sm := sSeq (sFld na 5 (eVar 0) (eVar 1)) q_Order_require_2
def b_Order_require : Sm := (sIf (asB (eOp opGt (eVar 1) (eC (.int 0)))) q_Order_require_1 sNx)
def m_Order_require : List D → M D := mFun 3 3 b_Order_require
def q_Orders_place_2 : Sm := sSeq (sIf (asB (eOp opNe (eTup (aCons (eFld na 0 (eVar 7)) (aCons (eFld na 1 (eVar 7)) (aCons (eFld na 2 (eVar 7)) aNil)))) (eTup (aCons (eVar 1) (aCons (eVar 2) (aCons (eVar 3) aNil)))))) (sRaise 4) sNx) (sRet (eVar 6))
def q_Orders_place_1 : Sm := sSeq (sAsg (gmN 7) (eOp opIx (eFld na 11 (eVar 0)) (eOp opSub (eVar 6) (eC (.int 1))))) q_Orders_place_2
def q_Orders_place_11 : Sm := sSeq (sSub (eFld na 12 (eVar 0)) (eVar 4) (eB bLen (aCons (eFld na 11 (eVar 0)) aNil))) (sRet (eB bLen (aCons (eFld na 11 (eVar 0)) aNil)))
def q_Orders_place_10 : Sm := sSeq (sDrop (eMt mAppend (eFld na 11 (eVar 0)) (aCons (eVar 8) aNil))) q_Orders_place_11
def q_Orders_place_9 : Sm := sSeq (sDrop (eMeth 8 none m_Order_require (eVar 8) (aCons (eVar 9) (aCons (eVar 10) aNil)))) q_Orders_place_10
def q_Orders_place_8 : Sm := sSeq (sAsg (gmT ((gmN 9) :: ((gmN 10) :: []))) (eMeth 9 none m_Orders_row_for (eVar 0) (aCons (eVar 2) (aCons (eVar 3) aNil)))) q_Orders_place_9
def q_Orders_place_7 : Sm := sSeq (sAsg (gmN 8) (eMake 8 m_Order_init (aCons (eVar 1) (aCons (eVar 2) (aCons (eVar 3) (aCons (eVar 4) (aCons (eVar 5) aNil))))))) q_Orders_place_8
def q_Orders_place_6 : Sm := sSeq (sIf (asB (eOp opGe (eB bLen (aCons (eFld na 11 (eVar 0)) aNil)) (eC (.int 500)))) (sRaise 5) sNx) q_Orders_place_7
def q_Orders_place_5 : Sm := sSeq (sIf (asB (eOp opIsNot (eVar 6) (eC .non))) q_Orders_place_1 sNx) q_Orders_place_6
def q_Orders_place_4 : Sm := sSeq (sAsg (gmN 6) (eMeth 9 none m_Orders_by_key (eVar 0) (aCons (eVar 4) aNil))) q_Orders_place_5
def q_Orders_place_3 : Sm := sSeq (sDrop (eMeth 9 none m_Orders_check_place (eVar 0) (aCons (eVar 1) (aCons (eVar 2) (aCons (eVar 3) (aCons (eVar 4) (aCons (eVar 5) aNil))))))) q_Orders_place_4
def b_Orders_place : Sm := q_Orders_place_3
def m_Orders_place : List D → M D := mFun 6 11 b_Orders_place
def q_law_same_7 (rec : List D → M D) : Sm := sSeq (sFor (iRng1' (aCons (eB bLen (aCons (eVar 1) aNil)) aNil)) (gmN 2)
      (sIf (bNot (tru (eCall rec (aCons (eOp opIx (eVar 0) (eVar 2)) (aCons (eOp opIx (eVar 1) (eVar 2)) aNil))))) (sRet (eC (.bl false))) sNx)) (sRet (eC (.bl true)))
def q_law_same_6 (rec : List D → M D) : Sm := sSeq (sIf (asB (eOp opNe (eB bLen (aCons (eVar 0) aNil)) (eB bLen (aCons (eVar 1) aNil)))) (sRet (eC (.bl false))) sNx) (q_law_same_7 rec)
def q_law_same_5 (rec : List D → M D) : Sm := sSeq (sIf (bOr (asB (eOp opNe (eIsi 5 (eVar 1)) (eIsi 5 (eVar 0)))) (asB (eOp opNe (eIsi 4 (eVar 1)) (eIsi 4 (eVar 0))))) (sRet (eC (.bl false))) sNx) (q_law_same_6 rec)
def q_law_same_4 (rec : List D → M D) : Sm := sSeq (sIf (tru (eIsi 3 (eVar 1))) (sRet (eAndV (eIsi 3 (eVar 0)) (eOp opEq (eVar 0) (eVar 1)))) sNx) (q_law_same_5 rec)
def q_law_same_3 (rec : List D → M D) : Sm := sSeq (sIf (tru (eIsi 2 (eVar 1))) (sRet (eAndV (eIsi 2 (eVar 0)) (eAndV (eNotV (eIsi 1 (eVar 0))) (eOp opEq (eVar 0) (eVar 1))))) sNx) (q_law_same_4 rec)
def q_law_same_2 (rec : List D → M D) : Sm := sSeq (sIf (tru (eIsi 1 (eVar 1))) (sRet (eAndV (eIsi 1 (eVar 0)) (eOp opEq (eVar 0) (eVar 1)))) sNx) (q_law_same_3 rec)
def q_law_same_1 (rec : List D → M D) : Sm := sSeq (sIf (asB (eOp opIs (eVar 1) (eC .non))) (sRet (eOp opIs (eVar 0) (eC .non))) sNx) (q_law_same_2 rec)
def b_law_same (rec : List D → M D) : Sm := (q_law_same_1 rec)
def m_law_same : Nat → List D → M D
  | 0 => mFun 2 3 sNever
  | n + 1 => mFun 2 3 (b_law_same (m_law_same n))
def q_law_placed_1 : Sm := sSeq (sAsg (gmN 10) (eC .non)) (sAsg (gmN 11) (eC (.str "ready")))
def q_law_placed_10 : Sm := sSeq (sDrop (eMt mAppend (eVar 1) (aCons (eLst (aCons (eVar 5) (aCons (eC (.str "pay")) (aCons (eVar 6) (aCons (eVar 8) (aCons (eVar 7) (aCons (eOp opIx (eVar 4) (eC (.int 0))) (aCons (eVar 10) (aCons (eLst aNil) (aCons (eVar 11) aNil)))))))))) aNil))) (sRet (eCall (m_law_same 8) (aCons (eVar 9) (aCons (eB bLen (aCons (eVar 1) aNil)) aNil))))
def q_law_placed_9 : Sm := sSeq (sIf (asB (eOp opEq (eOp opIx (eVar 4) (eC (.int 0))) (eC (.int 0)))) q_law_placed_1 sNx) q_law_placed_10
def q_law_placed_8 : Sm := sSeq (sAsg (gmN 11) (eC (.str "waiting"))) q_law_placed_9
def q_law_placed_7 : Sm := sSeq (sAsg (gmN 10) (eOp opIx (eVar 4) (eC (.int 1)))) q_law_placed_8
def q_law_placed_6 : Sm := sSeq (sAsg (gmN 9) (eMeth 9 none m_Orders_place (eVar 0) (aCons (eVar 5) (aCons (eC (.str "pay")) (aCons (eVar 6) (aCons (eVar 8) (aCons (eVar 7) aNil))))))) q_law_placed_7
def q_law_placed_5 : Sm := sSeq (sAsg (gmN 8) (eOp opAdd (eC (.str "key ")) (eB bStr (aCons (eB bLen (aCons (eVar 1) aNil)) aNil)))) q_law_placed_6
def q_law_placed_4 : Sm := sSeq (sAsg (gmN 7) (eOp opMod (eB bInt (aCons (eOp opIx (eVar 2) (eC (.int 3))) aNil)) (eC (.int 40)))) q_law_placed_5
def q_law_placed_3 : Sm := sSeq (sAsg (gmN 6) (eOp opAdd (eC (.int 1)) (eOp opMod (eB bInt (aCons (eOp opIx (eVar 2) (eC (.int 2))) aNil)) (eC (.int 2000))))) q_law_placed_4
def q_law_placed_2 : Sm := sSeq (sAsg (gmN 5) (eOp opIx (eVar 3) (eOp opMod (eB bInt (aCons (eOp opIx (eVar 2) (eC (.int 1))) aNil)) (eC (.int 5))))) q_law_placed_3
def b_law_placed : Sm := q_law_placed_2
def m_law_placed : List D → M D := mFun 5 12 b_law_placed
def q_law_decides_1 : Sm := sSeq (sSub (eVar 0) (eC (.int 8)) (eC (.str "rejected"))) (sRet (eOp opIx (eVar 0) (eC (.int 8))))
def q_law_decides_8 : Sm := sSeq (sIf (asB (eOp opEq (eB bLen (aCons (eOp opIx (eVar 0) (eC (.int 7))) aNil)) (eOp opIx (eVar 0) (eC (.int 5))))) (sSub (eVar 0) (eC (.int 8)) (eC (.str "ready"))) sNx) (sRet (eOp opIx (eVar 0) (eC (.int 8))))
def q_law_decides_7 : Sm := sSeq (sSub (eVar 0) (eC (.int 7)) (eOp opAdd (eOp opIx (eVar 0) (eC (.int 7))) (eLst (aCons (eVar 2) aNil)))) q_law_decides_8
def q_law_decides_6 : Sm := sSeq (sIf (asB (eOp opIn (eVar 2) (eOp opIx (eVar 0) (eC (.int 7))))) (sRet (eC (.str "NotAllowed"))) sNx) q_law_decides_7
def q_law_decides_5 : Sm := sSeq (sIf (asB (eOp opEq (eVar 1) (eC (.str "reject")))) q_law_decides_1 sNx) q_law_decides_6
def q_law_decides_4 : Sm := sSeq (sIf (bOr (asB (eOp opEq (eVar 2) (eOp opIx (eVar 0) (eC (.int 0))))) (asB (eOp opLt (eMt mIndex (eVar 4) (aCons (eOp opIx (eVar 3) (eVar 2)) aNil)) (eMt mIndex (eVar 4) (aCons (eOp opIx (eVar 0) (eC (.int 6))) aNil))))) (sRet (eC (.str "NotAllowed"))) sNx) q_law_decides_5
def q_law_decides_3 : Sm := sSeq (sIf (asB (eOp opNe (eOp opIx (eVar 0) (eC (.int 8))) (eC (.str "waiting")))) (sRet (eC (.str "Refused"))) sNx) q_law_decides_4
def q_law_decides_2 : Sm := sSeq (sAsg (gmN 4) (eLst (aCons (eC (.str "teller")) (aCons (eC (.str "officer")) (aCons (eC (.str "chief")) aNil))))) q_law_decides_3
def b_law_decides : Sm := q_law_decides_2
def m_law_decides : List D → M D := mFun 4 5 b_law_decides
def q_law_due_1 : Sm := sSeq (sSub (eOp opIx (eVar 0) (eVar 7)) (eC (.int 8)) (eC (.str "expired"))) (sDrop (eMt mAppend (eVar 6) (aCons (eOp opAdd (eVar 7) (eC (.int 1))) aNil)))
def q_law_due_3 : Sm := sSeq (sFor (iRng1' (aCons (eB bLen (aCons (eVar 0) aNil)) aNil)) (gmN 7)
      (sIf (bAnd (asB (eOp opIn (eOp opIx (eOp opIx (eVar 0) (eVar 7)) (eC (.int 8))) (eTup (aCons (eC (.str "waiting")) (aCons (eC (.str "ready")) aNil))))) (asB (eOp opLt (eOp opIx (eOp opIx (eVar 0) (eVar 7)) (eC (.int 4))) (eVar 4)))) q_law_due_1 sNx)) (sRet (eVar 6))
def q_law_due_2 : Sm := sSeq (sAsg (gmN 6) (eLst aNil)) q_law_due_3
def q_law_due_11 : Sm := sSeq (sSub (eVar 8) (eC (.int 8)) (eOp opIx (eDctN (((eC (.str "withdraw")), (eC (.str "withdrawn"))) :: (((eC (.str "complete")), (eC (.str "done"))) :: (((eC (.str "fail")), (eC (.str "failed"))) :: [])))) (eVar 1))) (sRet (eOp opIx (eVar 8) (eC (.int 8))))
def q_law_due_10 : Sm := sSeq (sIf (bAnd (asB (eOp opNe (eOp opIx (eVar 8) (eC (.int 8))) (eC (.str "ready")))) (bOr (asB (eOp opNe (eVar 1) (eC (.str "withdraw")))) (asB (eOp opNe (eOp opIx (eVar 8) (eC (.int 8))) (eC (.str "waiting")))))) (sRet (eC (.str "Refused"))) sNx) q_law_due_11
def q_law_due_9 : Sm := sSeq (sIf (bAnd (asB (eOp opEq (eVar 1) (eC (.str "withdraw")))) (asB (eOp opNe (eVar 2) (eOp opIx (eVar 8) (eC (.int 0)))))) (sRet (eC (.str "NotAllowed"))) sNx) q_law_due_10
def q_law_due_8 : Sm := sSeq (sIf (asB (eOp opIn (eVar 1) (eTup (aCons (eC (.str "grant")) (aCons (eC (.str "reject")) aNil))))) (sRet (eCall m_law_decides (aCons (eVar 8) (aCons (eVar 1) (aCons (eVar 2) (aCons (eVar 5) aNil)))))) sNx) q_law_due_9
def q_law_due_7 : Sm := sSeq (sAsg (gmN 8) (eOp opIx (eVar 0) (eOp opSub (eVar 3) (eC (.int 1))))) q_law_due_8
def q_law_due_6 : Sm := sSeq (sIf (bNot (asB (eChain opLe opLe (eC (.int 1)) (eVar 3) (eB bLen (aCons (eVar 0) aNil))))) (sRet (eC (.str "Missing"))) sNx) q_law_due_7
def q_law_due_5 : Sm := sSeq (sIf (bAnd (asB (eOp opIn (eVar 1) (eTup (aCons (eC (.str "grant")) (aCons (eC (.str "reject")) aNil))))) (asB (eOp opNotIn (eVar 2) (eVar 5)))) (sRet (eC (.str "NotAllowed"))) sNx) q_law_due_6
def q_law_due_4 : Sm := sSeq (sIf (asB (eOp opEq (eVar 1) (eC (.str "expire")))) q_law_due_2 sNx) q_law_due_5
def b_law_due : Sm := q_law_due_4
def m_law_due : List D → M D := mFun 6 9 b_law_due
def q_Orders_at_number_1 : Sm := sSeq (sIf (bNot (asB (eChain opLe opLe (eC (.int 1)) (eVar 1) (eB bLen (aCons (eFld na 11 (eVar 0)) aNil))))) (sRaise 3) sNx) (sRet (eOp opIx (eFld na 11 (eVar 0)) (eOp opSub (eVar 1) (eC (.int 1)))))
def b_Orders_at_number : Sm := q_Orders_at_number_1
def m_Orders_at_number : List D → M D := mFun 2 2 b_Orders_at_number
def q_Orders_may_2 : Sm := sSeq (sIf (asB (eOp opNotIn (eVar 1) (eFld na 9 (eVar 0)))) (sRet (eC (.bl false))) sNx) (sRet (eOp opGe (eMtC mIndexT c_ROLES (aCons (eOp opIx (eFld na 9 (eVar 0)) (eVar 1)) aNil)) (eMtC mIndexT c_ROLES (aCons (eVar 2) aNil))))
def q_Orders_may_1 : Sm := sSeq (sIf (asB (eOp opNotIn (eVar 2) (eC c_ROLES))) (sRaise 1) sNx) q_Orders_may_2
def b_Orders_may : Sm := q_Orders_may_1
def m_Orders_may : List D → M D := mFun 3 3 b_Orders_may
def q_Orders_waiting_for_4 : Sm := sSeq (sIf (bOr (asB (eOp opEq (eFld na 0 (eVar 3)) (eVar 1))) (bNot (tru (eMeth 9 none m_Orders_may (eVar 0) (aCons (eVar 1) (aCons (eFld na 6 (eVar 3)) aNil)))))) (sRaise 6) sNx) (sRet (eVar 3))
def q_Orders_waiting_for_3 : Sm := sSeq (sIf (asB (eOp opNe (eFld na 8 (eVar 3)) (eC (.str "waiting")))) (sRaise 4) sNx) q_Orders_waiting_for_4
def q_Orders_waiting_for_2 : Sm := sSeq (sAsg (gmN 3) (eMeth 9 none m_Orders_at_number (eVar 0) (aCons (eVar 2) aNil))) q_Orders_waiting_for_3
def q_Orders_waiting_for_1 : Sm := sSeq (sIf (asB (eOp opNotIn (eVar 1) (eFld na 9 (eVar 0)))) (sRaise 6) sNx) q_Orders_waiting_for_2
def b_Orders_waiting_for : Sm := q_Orders_waiting_for_1
def m_Orders_waiting_for : List D → M D := mFun 3 4 b_Orders_waiting_for
def q_Orders_grant_4 : Sm := sSeq (sIf (asB (eOp opEq (eB bLen (aCons (eFld na 7 (eVar 3)) aNil)) (eFld na 5 (eVar 3)))) (sFld na 8 (eVar 3) (eC (.str "ready"))) sNx) (sRet (eFld na 8 (eVar 3)))
def q_Orders_grant_3 : Sm := sSeq (sDrop (eMt mAppend (eFld na 7 (eVar 3)) (aCons (eVar 1) aNil))) q_Orders_grant_4
def q_Orders_grant_2 : Sm := sSeq (sIf (asB (eOp opIn (eVar 1) (eFld na 7 (eVar 3)))) (sRaise 6) sNx) q_Orders_grant_3
def q_Orders_grant_1 : Sm := sSeq (sAsg (gmN 3) (eMeth 9 none m_Orders_waiting_for (eVar 0) (aCons (eVar 1) (aCons (eVar 2) aNil)))) q_Orders_grant_2
def b_Orders_grant : Sm := q_Orders_grant_1
def m_Orders_grant : List D → M D := mFun 3 4 b_Orders_grant
def q_Orders_reject_2 : Sm := sSeq (sFld na 8 (eVar 3) (eC (.str "rejected"))) (sRet (eFld na 8 (eVar 3)))
def q_Orders_reject_1 : Sm := sSeq (sAsg (gmN 3) (eMeth 9 none m_Orders_waiting_for (eVar 0) (aCons (eVar 1) (aCons (eVar 2) aNil)))) q_Orders_reject_2
def b_Orders_reject : Sm := q_Orders_reject_1
def m_Orders_reject : List D → M D := mFun 3 4 b_Orders_reject
def q_Orders_withdraw_4 : Sm := sSeq (sFld na 8 (eVar 3) (eC (.str "withdrawn"))) (sRet (eFld na 8 (eVar 3)))
def q_Orders_withdraw_3 : Sm := sSeq (sIf (asB (eOp opNotIn (eFld na 8 (eVar 3)) (eTup (aCons (eC (.str "waiting")) (aCons (eC (.str "ready")) aNil))))) (sRaise 4) sNx) q_Orders_withdraw_4
def q_Orders_withdraw_2 : Sm := sSeq (sIf (asB (eOp opNe (eFld na 0 (eVar 3)) (eVar 1))) (sRaise 6) sNx) q_Orders_withdraw_3
def q_Orders_withdraw_1 : Sm := sSeq (sAsg (gmN 3) (eMeth 9 none m_Orders_at_number (eVar 0) (aCons (eVar 2) aNil))) q_Orders_withdraw_2
def b_Orders_withdraw : Sm := q_Orders_withdraw_1
def m_Orders_withdraw : List D → M D := mFun 3 4 b_Orders_withdraw
def q_Orders_end_3 : Sm := sSeq (sFld na 8 (eVar 3) (eVar 2)) (sRet (eFld na 8 (eVar 3)))
def q_Orders_end_2 : Sm := sSeq (sIf (asB (eOp opNe (eFld na 8 (eVar 3)) (eC (.str "ready")))) (sRaise 4) sNx) q_Orders_end_3
def q_Orders_end_1 : Sm := sSeq (sAsg (gmN 3) (eMeth 9 none m_Orders_at_number (eVar 0) (aCons (eVar 1) aNil))) q_Orders_end_2
def b_Orders_end : Sm := q_Orders_end_1
def m_Orders_end : List D → M D := mFun 3 4 b_Orders_end
def b_Orders_complete : Sm := (sRet (eMeth 9 none m_Orders_end (eVar 0) (aCons (eVar 1) (aCons (eC (.str "done")) aNil))))
def m_Orders_complete : List D → M D := mFun 2 2 b_Orders_complete
def b_Orders_fail : Sm := (sRet (eMeth 9 none m_Orders_end (eVar 0) (aCons (eVar 1) (aCons (eC (.str "failed")) aNil))))
def m_Orders_fail : List D → M D := mFun 2 2 b_Orders_fail
def q_Orders_expire_1 : Sm := sSeq (sFld na 8 (eVar 4) (eC (.str "expired"))) (sDrop (eMt mAppend (eVar 2) (aCons (eOp opAdd (eVar 3) (eC (.int 1))) aNil)))
def q_Orders_expire_3 : Sm := sSeq (sFor (iEnum' (aCons (eFld na 11 (eVar 0)) aNil)) (gmT ((gmN 3) :: ((gmN 4) :: [])))
      (sIf (bAnd (asB (eOp opIn (eFld na 8 (eVar 4)) (eTup (aCons (eC (.str "waiting")) (aCons (eC (.str "ready")) aNil))))) (asB (eOp opLt (eFld na 4 (eVar 4)) (eVar 1)))) q_Orders_expire_1 sNx)) (sRet (eVar 2))
def q_Orders_expire_2 : Sm := sSeq (sAsg (gmN 2) (eLst aNil)) q_Orders_expire_3
def b_Orders_expire : Sm := q_Orders_expire_2
def m_Orders_expire : List D → M D := mFun 2 5 b_Orders_expire
def q_law_class_9 (a0 : Addr) (c : Nat) : Sm := sSeq (sIf (bAnd (asB (eOp opEq (eB bLen (aCons (eVar 1) aNil)) (eC (.int 1)))) (tru (eIsE a0 0 c tab_ValueError))) (sRet (eOp opIx (eVar 1) (eC (.int 0)))) sNx) (sRet (eC (.str "odd")))
def q_law_class_8 (a0 : Addr) (c : Nat) : Sm := sSeq (sIf (tru (eIsE a0 0 c tab_Damaged)) (sDrop (eMt mAppend (eVar 1) (aCons (eC (.str "Damaged")) aNil))) sNx) (q_law_class_9 a0 c)
def q_law_class_7 (a0 : Addr) (c : Nat) : Sm := sSeq (sIf (tru (eIsE a0 0 c tab_NotAllowed)) (sDrop (eMt mAppend (eVar 1) (aCons (eC (.str "NotAllowed")) aNil))) sNx) (q_law_class_8 a0 c)
def q_law_class_6 (a0 : Addr) (c : Nat) : Sm := sSeq (sIf (tru (eIsE a0 0 c tab_Full)) (sDrop (eMt mAppend (eVar 1) (aCons (eC (.str "Full")) aNil))) sNx) (q_law_class_7 a0 c)
def q_law_class_5 (a0 : Addr) (c : Nat) : Sm := sSeq (sIf (tru (eIsE a0 0 c tab_Refused)) (sDrop (eMt mAppend (eVar 1) (aCons (eC (.str "Refused")) aNil))) sNx) (q_law_class_6 a0 c)
def q_law_class_4 (a0 : Addr) (c : Nat) : Sm := sSeq (sIf (tru (eIsE a0 0 c tab_Missing)) (sDrop (eMt mAppend (eVar 1) (aCons (eC (.str "Missing")) aNil))) sNx) (q_law_class_5 a0 c)
def q_law_class_3 (a0 : Addr) (c : Nat) : Sm := sSeq (sIf (tru (eIsE a0 0 c tab_BadDay)) (sDrop (eMt mAppend (eVar 1) (aCons (eC (.str "BadDay")) aNil))) sNx) (q_law_class_4 a0 c)
def q_law_class_2 (a0 : Addr) (c : Nat) : Sm := sSeq (sIf (tru (eIsE a0 0 c tab_BadValue)) (sDrop (eMt mAppend (eVar 1) (aCons (eC (.str "BadValue")) aNil))) sNx) (q_law_class_3 a0 c)
def q_law_class_1 (a0 : Addr) (c : Nat) : Sm := sSeq (sAsg (gmN 1) (eLst aNil)) (q_law_class_2 a0 c)
def b_law_class (a0 : Addr) (c : Nat) : Sm := (q_law_class_1 a0 c)
def m_law_class (a0 : Addr) (c : Nat) : List D → M D := mFun 1 2 (b_law_class a0 c)
def h_law_call_1 (a0 : Addr) (c : Nat) : Sm := (sRet (eCall (m_law_class a0 c) (aCons (eVar 6) aNil)))
def h0_law_call_1 (c : Nat) : Sm := fun env G => h_law_call_1 0 c (env.set 6 (some (.exc 0))) G
def q_law_call_1 : Sm := sSeq (sTryAs sb_0 6 (sIf (asB (eOp opEq (eVar 1) (eC (.str "grant")))) (sAsg (gmN 5) (eMeth 9 none m_Orders_grant (eVar 0) (aCons (eVar 2) (aCons (eVar 3) aNil)))) (sIf (asB (eOp opEq (eVar 1) (eC (.str "reject")))) (sAsg (gmN 5) (eMeth 9 none m_Orders_reject (eVar 0) (aCons (eVar 2) (aCons (eVar 3) aNil)))) (sIf (asB (eOp opEq (eVar 1) (eC (.str "withdraw")))) (sAsg (gmN 5) (eMeth 9 none m_Orders_withdraw (eVar 0) (aCons (eVar 2) (aCons (eVar 3) aNil)))) (sIf (asB (eOp opEq (eVar 1) (eC (.str "complete")))) (sAsg (gmN 5) (eMeth 9 none m_Orders_complete (eVar 0) (aCons (eVar 3) aNil))) (sIf (asB (eOp opEq (eVar 1) (eC (.str "fail")))) (sAsg (gmN 5) (eMeth 9 none m_Orders_fail (eVar 0) (aCons (eVar 3) aNil))) (sAsg (gmN 5) (eMeth 9 none m_Orders_expire (eVar 0) (aCons (eVar 4) aNil)))))))) (fun c => h0_law_call_1 c)) (sRet (eVar 5))
def b_law_call : Sm := q_law_call_1
def m_law_call : List D → M D := mFun 5 7 b_law_call
def b_Order_told : Sm := (sRet (eTup (aCons (eFld na 0 (eVar 0)) (aCons (eFld na 1 (eVar 0)) (aCons (eFld na 2 (eVar 0)) (aCons (eFld na 3 (eVar 0)) (aCons (eFld na 4 (eVar 0)) (aCons (eFld na 5 (eVar 0)) (aCons (eFld na 6 (eVar 0)) (aCons (eB bList (aCons (eFld na 7 (eVar 0)) aNil)) (aCons (eFld na 8 (eVar 0)) aNil)))))))))))
def m_Order_told : List D → M D := mFun 1 1 b_Order_told
def b_Orders_order : Sm := (sRet (eMeth 8 none m_Order_told (eMeth 9 none m_Orders_at_number (eVar 0) (aCons (eVar 1) aNil)) aNil))
def m_Orders_order : List D → M D := mFun 2 2 b_Orders_order
def q_law_stand_3 : Sm := sSeq (sIf (bNot (tru (eCall (m_law_same 8) (aCons (eVar 4) (aCons (eVar 3) aNil))))) (sRet (eC (.bl false))) sNx) (sDrop (eMt mAppend (eOp opIx (eVar 4) (eC (.int 7))) (aCons (eC (.str "spoilt")) aNil)))
def q_law_stand_2 : Sm := sSeq (sAsg (gmN 4) (eMeth 9 none m_Orders_order (eVar 0) (aCons (eOp opAdd (eVar 2) (eC (.int 1))) aNil))) q_law_stand_3
def q_law_stand_1 : Sm := sSeq (sAsg (gmN 3) (eTup (aCons (eOp opIx (eOp opIx (eVar 1) (eVar 2)) (eC (.int 0))) (aCons (eOp opIx (eOp opIx (eVar 1) (eVar 2)) (eC (.int 1))) (aCons (eOp opIx (eOp opIx (eVar 1) (eVar 2)) (eC (.int 2))) (aCons (eOp opIx (eOp opIx (eVar 1) (eVar 2)) (eC (.int 3))) (aCons (eOp opIx (eOp opIx (eVar 1) (eVar 2)) (eC (.int 4))) (aCons (eOp opIx (eOp opIx (eVar 1) (eVar 2)) (eC (.int 5))) (aCons (eOp opIx (eOp opIx (eVar 1) (eVar 2)) (eC (.int 6))) (aCons (eOp opIx (eOp opIx (eVar 1) (eVar 2)) (eC (.int 7))) (aCons (eOp opIx (eOp opIx (eVar 1) (eVar 2)) (eC (.int 8))) aNil))))))))))) q_law_stand_2
def q_law_stand_4 : Sm := sSeq (sFor (iRng1' (aCons (eB bLen (aCons (eVar 1) aNil)) aNil)) (gmN 2)
      q_law_stand_1) (sRet (eC (.bl true)))
def b_law_stand : Sm := q_law_stand_4
def m_law_stand : List D → M D := mFun 2 5 b_law_stand
def q_law_1 : Sm := sSeq (sSub (eVar 4) (eOp opIx (eVar 2) (eVar 5)) (eOp opIx (eTup (aCons (eC (.str "teller")) (aCons (eC (.str "officer")) (aCons (eC (.str "chief")) (aCons (eC (.str "chief")) aNil))))) (eOp opMod (eB bInt (aCons (eOp opIx (eVar 1) (eOp opAdd (eC (.int 7)) (eVar 5))) aNil)) (eC (.int 4))))) (sDrop (eMeth 9 none m_Orders_add_user (eVar 3) (aCons (eOp opIx (eVar 2) (eVar 5)) (aCons (eOp opIx (eVar 4) (eOp opIx (eVar 2) (eVar 5))) aNil))))
def q_law_2 : Sm := sSeq (sAsg (gmN 6) (eTup (aCons (eOp opMod (eB bInt (aCons (eOp opIx (eVar 9) (eC (.int 5))) aNil)) (eC (.int 6))) (aCons (eOp opIx (eTup (aCons (eC (.str "teller")) (aCons (eC (.str "officer")) (aCons (eC (.str "chief")) aNil)))) (eOp opMod (eB bInt (aCons (eOp opIx (eVar 9) (eC (.int 6))) aNil)) (eC (.int 3)))) aNil)))) (sDrop (eMeth 9 none m_Orders_set_rule (eVar 3) (aCons (eC (.str "pay")) (aCons (eLst (aCons (eTup (aCons (eC (.int 0)) (aCons (eOp opIx (eVar 6) (eC (.int 0))) (aCons (eOp opIx (eVar 6) (eC (.int 1))) aNil)))) aNil)) aNil))))
def q_law_3 : Sm := sSeq (sIf (asB (eOp opEq (eOp opMod (eB bInt (aCons (eOp opIx (eVar 9) (eC (.int 4))) aNil)) (eC (.int 3))) (eC (.int 0)))) q_law_2 sNx) (sIf (bNot (tru (eCall m_law_placed (aCons (eVar 3) (aCons (eVar 7) (aCons (eVar 9) (aCons (eVar 2) (aCons (eVar 6) aNil)))))))) (sRet (eC (.bl false))) sNx)
def q_law_15 : Sm := sSeq (sIf (bNot (tru (eCall (m_law_same 8) (aCons (eCall m_law_call (aCons (eVar 3) (aCons (eVar 11) (aCons (eVar 12) (aCons (eVar 13) (aCons (eVar 14) aNil)))))) (aCons (eVar 15) aNil))))) (sRet (eC (.bl false))) sNx) (sIf (bNot (tru (eCall m_law_stand (aCons (eVar 3) (aCons (eVar 7) aNil))))) (sRet (eC (.bl false))) sNx)
def q_law_14 : Sm := sSeq (sAsg (gmN 15) (eCall m_law_due (aCons (eVar 7) (aCons (eVar 11) (aCons (eVar 12) (aCons (eVar 13) (aCons (eVar 14) (aCons (eVar 4) aNil)))))))) q_law_15
def q_law_13 : Sm := sSeq (sIf (asB (eOp opEq (eOp opMod (eB bInt (aCons (eOp opIx (eVar 9) (eC (.int 7))) aNil)) (eC (.int 9))) (eC (.int 0)))) (sAsg (gmN 14) (eOp opIx (eTup (aCons (eOp opSub (eC (.int 0)) (eC (.int 1))) (aCons (eOp opSub (eC (.int 0)) (eC (.int 1000000))) (aCons (eC (.int 36525)) (aCons (eC (.int 1000000000)) aNil))))) (eOp opMod (eB bInt (aCons (eOp opIx (eVar 9) (eC (.int 6))) aNil)) (eC (.int 4))))) sNx) q_law_14
def q_law_12 : Sm := sSeq (sAsg (gmN 14) (eOp opMod (eB bInt (aCons (eOp opIx (eVar 9) (eC (.int 6))) aNil)) (eC (.int 44)))) q_law_13
def q_law_11 : Sm := sSeq (sIf (bAnd (asB (eOp opEq (eVar 11) (eC (.str "withdraw")))) (asB (eOp opEq (eOp opMod (eB bInt (aCons (eOp opIx (eVar 9) (eC (.int 5))) aNil)) (eC (.int 2))) (eC (.int 0))))) (sAsg (gmN 12) (eOp opIx (eOp opIx (eVar 7) (eOp opMod (eB bInt (aCons (eOp opIx (eVar 9) (eC (.int 3))) aNil)) (eB bLen (aCons (eVar 7) aNil)))) (eC (.int 0)))) sNx) q_law_12
def q_law_10 : Sm := sSeq (sIf (asB (eOp opEq (eOp opMod (eB bInt (aCons (eOp opIx (eVar 9) (eC (.int 4))) aNil)) (eC (.int 9))) (eC (.int 4)))) (sAsg (gmN 13) (eOp opIx (eTup (aCons (eC (.int 0)) (aCons (eOp opAdd (eB bLen (aCons (eVar 7) aNil)) (eC (.int 1))) (aCons (eOp opSub (eC (.int 0)) (eC (.int 1))) aNil)))) (eOp opMod (eB bInt (aCons (eOp opIx (eVar 9) (eC (.int 3))) aNil)) (eC (.int 3))))) sNx) q_law_11
def q_law_9 : Sm := sSeq (sAsg (gmN 13) (eOp opAdd (eC (.int 1)) (eOp opMod (eB bInt (aCons (eOp opIx (eVar 9) (eC (.int 3))) aNil)) (eB bLen (aCons (eVar 7) aNil))))) q_law_10
def q_law_8 : Sm := sSeq (sAsg (gmN 12) (eOp opIx (eVar 2) (eOp opMod (eB bInt (aCons (eOp opIx (eVar 9) (eC (.int 2))) aNil)) (eC (.int 6))))) q_law_9
def q_law_7 : Sm := sSeq (sAsg (gmN 11) (eOp opIx (eVar 10) (eOp opMod (eB bInt (aCons (eOp opIx (eVar 9) (eC (.int 1))) aNil)) (eC (.int 9))))) q_law_8
def q_law_6 : Sm := sSeq (sAsg (gmN 10) (eTup (aCons (eC (.str "grant")) (aCons (eC (.str "grant")) (aCons (eC (.str "grant")) (aCons (eC (.str "grant")) (aCons (eC (.str "reject")) (aCons (eC (.str "withdraw")) (aCons (eC (.str "complete")) (aCons (eC (.str "fail")) (aCons (eC (.str "expire")) aNil))))))))))) q_law_7
def q_law_5 : Sm := sSeq (sIf (bOr (asB (eOp opEq (eOp opMod (eB bInt (aCons (eOp opIx (eVar 9) (eC (.int 0))) aNil)) (eC (.int 6))) (eC (.int 0)))) (bNot (tru (eVar 7)))) q_law_3 sNx) q_law_6
def q_law_4 : Sm := sSeq (sAsg (gmN 9) (eCall m_law_numbers (aCons (eVar 8) (aCons (eC (.int 8)) aNil)))) q_law_5
def q_law_25 : Sm := sSeq (sFor (iSeq (eOp opAdd (eLst (aCons (eC (.int 5)) aNil)) (eSl (eVar 0) pNone (pSome (eC (.int 63)))))) (gmN 8)
      q_law_4) (sRet (eC (.bl true)))
def q_law_24 : Sm := sSeq (sAsg (gmN 7) (eLst aNil)) q_law_25
def q_law_23 : Sm := sSeq (sDrop (eMeth 9 none m_Orders_set_rule (eVar 3) (aCons (eC (.str "pay")) (aCons (eLst (aCons (eTup (aCons (eC (.int 0)) (aCons (eOp opIx (eVar 6) (eC (.int 0))) (aCons (eOp opIx (eVar 6) (eC (.int 1))) aNil)))) aNil)) aNil)))) q_law_24
def q_law_22 : Sm := sSeq (sAsg (gmN 6) (eTup (aCons (eOp opMod (eB bInt (aCons (eOp opIx (eVar 1) (eC (.int 12))) aNil)) (eC (.int 4))) (aCons (eOp opIx (eTup (aCons (eC (.str "teller")) (aCons (eC (.str "officer")) (aCons (eC (.str "chief")) aNil)))) (eOp opMod (eB bInt (aCons (eOp opIx (eVar 1) (eC (.int 13))) aNil)) (eC (.int 3)))) aNil)))) q_law_23
def q_law_21 : Sm := sSeq (sFor (iRng1' (aCons (eC (.int 5)) aNil)) (gmN 5)
      q_law_1) q_law_22
def q_law_20 : Sm := sSeq (sAsg (gmN 4) eDct0) q_law_21
def q_law_19 : Sm := sSeq (sAsg (gmN 3) (eMake 9 m_Orders_init aNil)) q_law_20
def q_law_18 : Sm := sSeq (sAsg (gmN 2) (eCall m_law_users (aCons (eVar 1) aNil))) q_law_19
def q_law_17 : Sm := sSeq (sIf (asB (eOp opGt (eB bLen (aCons (eVar 0) aNil)) (eC (.int 0)))) (sAsg (gmN 1) (eCall m_law_numbers (aCons (eOp opIx (eVar 0) (eC (.int 0))) (aCons (eC (.int 14)) aNil)))) sNx) q_law_18
def q_law_16 : Sm := sSeq (sAsg (gmN 1) (eCall m_law_numbers (aCons (eC (.int 0)) (aCons (eC (.int 14)) aNil)))) q_law_17
def b_law : Sm := q_law_16
def m_law : List D → M D := mFun 1 16 b_law
/-! ### names, facts -/
def clL : List Str := ["BankError", "BadValue", "BadDay", "Missing", "Refused", "Full", "NotAllowed", "Damaged", "Order", "Orders", "Ledger", "Closing", "Product", "Record", "Claim", "Deposits", "Sender", "Receiver", "Outgoing", "Incoming", "Payments", "Transfer", "Transfers", "Bank", "Clearing", "System"]
def flL0 : List Str := ["maker", "kind", "amount", "key", "until", "required", "role", "grants", "state", "roles", "rules", "placed", "numbers_by_key", "_accounts", "_lines", "_entries", "_reversed", "deposits", "transfers", "left", "name", "currency", "way", "_versions", "product"]
def flL1 : List Str := ["owner", "opened", "limit", "accrued_to", "earned", "credited", "account", "_ledger", "_records", "_claims", "me", "other", "last", "dropped", "kept", "bank", "there", "full_key", "payer", "ledger", "sender", "made", "made_by_key", "came", "came_by_key"]
def flL2 : List Str := ["source", "target", "hold", "orders", "plans", "day", "founded", "chief", "products", "payments", "closing", "receiver", "records", "saved_deeds", "saved_letters", "saved_taken", "balances", "floors", "known", "line", "clearing", "mail", "banks", "senders", "receivers"]
def flL3 : List Str := ["targets", "refusals"]
def flL : List Str := flL0 ++ flL1 ++ flL2 ++ flL3
abbrev tg (K : PySem.W.Frag) : Tg := tgOf K clL flL
def top (i : Nat) : Stmt := PySem.Challenge.pw_corebank_k50_grants_of_an_order.main.body.getD i (.Pass ⟨0, 0, 0, 0⟩)
def d_law_numbers : He.DefD := ⟨("_law_numbers", none), "_law_numbers", "_law_numbers", defArgs (top 27), defBody (top 27), defScope (top 27), [], []⟩
def d_law_name : He.DefD := ⟨("_law_name", none), "_law_name", "_law_name", defArgs (top 29), defBody (top 29), defScope (top 29), [], []⟩
def d_law_other : He.DefD := ⟨("_law_other", none), "_law_other", "_law_other", defArgs (top 30), defBody (top 30), defScope (top 30), [], []⟩
def d_law_users : He.DefD := ⟨("_law_users", none), "_law_users", "_law_users", defArgs (top 32), defBody (top 32), defScope (top 32), [], []⟩
def d_Orders_init : He.DefD := ⟨("Orders", some "__init__"), "__init__", "Orders.__init__", defArgs (inClass (top 25) 0), defBody (inClass (top 25) 0), defScope (inClass (top 25) 0), [], []⟩
def d_is_name : He.DefD := ⟨("is_name", none), "is_name", "is_name", defArgs (top 21), defBody (top 21), defScope (top 21), [], []⟩
def d_check_name : He.DefD := ⟨("check_name", none), "check_name", "check_name", defArgs (top 22), defBody (top 22), defScope (top 22), [], []⟩
def d_Orders_add_user : He.DefD := ⟨("Orders", some "add_user"), "add_user", "Orders.add_user", defArgs (inClass (top 25) 1), defBody (inClass (top 25) 1), defScope (inClass (top 25) 1), [], []⟩
def d_check_rule : He.DefD := ⟨("check_rule", none), "check_rule", "check_rule", defArgs (top 23), defBody (top 23), defScope (top 23), [], []⟩
def d_Orders_set_rule : He.DefD := ⟨("Orders", some "set_rule"), "set_rule", "Orders.set_rule", defArgs (inClass (top 25) 4), defBody (inClass (top 25) 4), defScope (inClass (top 25) 4), [], []⟩
def d_is_amount : He.DefD := ⟨("is_amount", none), "is_amount", "is_amount", defArgs (top 12), defBody (top 12), defScope (top 12), [], []⟩
def d_is_day : He.DefD := ⟨("is_day", none), "is_day", "is_day", defArgs (top 15), defBody (top 15), defScope (top 15), [], []⟩
def d_Orders_check_place : He.DefD := ⟨("Orders", some "check_place"), "check_place", "Orders.check_place", defArgs (inClass (top 25) 6), defBody (inClass (top 25) 6), defScope (inClass (top 25) 6), [], []⟩
def d_Orders_by_key : He.DefD := ⟨("Orders", some "by_key"), "by_key", "Orders.by_key", defArgs (inClass (top 25) 18), defBody (inClass (top 25) 18), defScope (inClass (top 25) 18), [], []⟩
def d_Order_init : He.DefD := ⟨("Order", some "__init__"), "__init__", "Order.__init__", defArgs (inClass (top 24) 0), defBody (inClass (top 24) 0), defScope (inClass (top 24) 0), [], []⟩
def d_Orders_row_for : He.DefD := ⟨("Orders", some "row_for"), "row_for", "Orders.row_for", defArgs (inClass (top 25) 5), defBody (inClass (top 25) 5), defScope (inClass (top 25) 5), [], []⟩
def d_Order_require : He.DefD := ⟨("Order", some "require"), "require", "Order.require", defArgs (inClass (top 24) 1), defBody (inClass (top 24) 1), defScope (inClass (top 24) 1), [], []⟩
def d_Orders_place : He.DefD := ⟨("Orders", some "place"), "place", "Orders.place", defArgs (inClass (top 25) 7), defBody (inClass (top 25) 7), defScope (inClass (top 25) 7), [], []⟩
def d_law_same : He.DefD := ⟨("_law_same", none), "_law_same", "_law_same", defArgs (top 31), defBody (top 31), defScope (top 31), [], []⟩
def d_law_placed : He.DefD := ⟨("_law_placed", none), "_law_placed", "_law_placed", defArgs (top 36), defBody (top 36), defScope (top 36), [], []⟩
def d_law_decides : He.DefD := ⟨("_law_decides", none), "_law_decides", "_law_decides", defArgs (top 34), defBody (top 34), defScope (top 34), [], []⟩
def d_law_due : He.DefD := ⟨("_law_due", none), "_law_due", "_law_due", defArgs (top 35), defBody (top 35), defScope (top 35), [], []⟩
def d_Orders_at_number : He.DefD := ⟨("Orders", some "at_number"), "at_number", "Orders.at_number", defArgs (inClass (top 25) 8), defBody (inClass (top 25) 8), defScope (inClass (top 25) 8), [], []⟩
def d_Orders_may : He.DefD := ⟨("Orders", some "may"), "may", "Orders.may", defArgs (inClass (top 25) 3), defBody (inClass (top 25) 3), defScope (inClass (top 25) 3), [], []⟩
def d_Orders_waiting_for : He.DefD := ⟨("Orders", some "waiting_for"), "waiting_for", "Orders.waiting_for", defArgs (inClass (top 25) 9), defBody (inClass (top 25) 9), defScope (inClass (top 25) 9), [], []⟩
def d_Orders_grant : He.DefD := ⟨("Orders", some "grant"), "grant", "Orders.grant", defArgs (inClass (top 25) 10), defBody (inClass (top 25) 10), defScope (inClass (top 25) 10), [], []⟩
def d_Orders_reject : He.DefD := ⟨("Orders", some "reject"), "reject", "Orders.reject", defArgs (inClass (top 25) 11), defBody (inClass (top 25) 11), defScope (inClass (top 25) 11), [], []⟩
def d_Orders_withdraw : He.DefD := ⟨("Orders", some "withdraw"), "withdraw", "Orders.withdraw", defArgs (inClass (top 25) 12), defBody (inClass (top 25) 12), defScope (inClass (top 25) 12), [], []⟩
def d_Orders_end : He.DefD := ⟨("Orders", some "end"), "end", "Orders.end", defArgs (inClass (top 25) 14), defBody (inClass (top 25) 14), defScope (inClass (top 25) 14), [], []⟩
def d_Orders_complete : He.DefD := ⟨("Orders", some "complete"), "complete", "Orders.complete", defArgs (inClass (top 25) 15), defBody (inClass (top 25) 15), defScope (inClass (top 25) 15), [], []⟩
def d_Orders_fail : He.DefD := ⟨("Orders", some "fail"), "fail", "Orders.fail", defArgs (inClass (top 25) 16), defBody (inClass (top 25) 16), defScope (inClass (top 25) 16), [], []⟩
def d_Orders_expire : He.DefD := ⟨("Orders", some "expire"), "expire", "Orders.expire", defArgs (inClass (top 25) 13), defBody (inClass (top 25) 13), defScope (inClass (top 25) 13), [], []⟩
def d_law_class : He.DefD := ⟨("_law_class", none), "_law_class", "_law_class", defArgs (top 28), defBody (top 28), defScope (top 28), [], []⟩
def d_law_call : He.DefD := ⟨("_law_call", none), "_law_call", "_law_call", defArgs (top 33), defBody (top 33), defScope (top 33), [], []⟩
def d_Order_told : He.DefD := ⟨("Order", some "told"), "told", "Order.told", defArgs (inClass (top 24) 2), defBody (inClass (top 24) 2), defScope (inClass (top 24) 2), [], []⟩
def d_Orders_order : He.DefD := ⟨("Orders", some "order"), "order", "Orders.order", defArgs (inClass (top 25) 17), defBody (inClass (top 25) 17), defScope (inClass (top 25) 17), [], []⟩
def d_law_stand : He.DefD := ⟨("_law_stand", none), "_law_stand", "_law_stand", defArgs (top 37), defBody (top 37), defScope (top 37), [], []⟩
def d_law : He.DefD := ⟨("law", none), "law", "law", defArgs (top 38), defBody (top 38), defScope (top 38), [], []⟩
def fn0 : List He.DefD := [d_law_numbers, d_law_name, d_law_other, d_law_users, d_Orders_init, d_is_name, d_check_name, d_Orders_add_user, d_check_rule, d_Orders_set_rule, d_is_amount, d_is_day, d_Orders_check_place, d_Orders_by_key, d_Order_init, d_Orders_row_for, d_Order_require, d_Orders_place, d_law_same, d_law_placed, d_law_decides, d_law_due, d_Orders_at_number, d_Orders_may, d_Orders_waiting_for]
def fn1 : List He.DefD := [d_Orders_grant, d_Orders_reject, d_Orders_withdraw, d_Orders_end, d_Orders_complete, d_Orders_fail, d_Orders_expire, d_law_class, d_law_call, d_Order_told, d_Orders_order, d_law_stand, d_law]
def fn : List He.DefD := fn0 ++ fn1
def faR0 : List He.Fa := [.free "int", .free "range", .glo "_law_numbers", .free "len", .glo "_law_name", .glo "_law_other", .glo "_law_users", .mkr "Orders", .glo "Orders", .str "LETTERS" "abcdefghijklmnopqrstuvwxyz", .str "DIGITS" "0123456789", .free "all", .glo "is_name", .exc "BadValue", .glo "BadValue", .glo "check_name", .exc "Refused", .glo "Refused", .meth "Orders" "add_user", .cls "Orders", .int "LIMIT" 1000000000, .glo "check_rule", .free "tuple", .meth "Orders" "set_rule", .free "str"]
def faR1 : List He.Fa := [.exc "NotAllowed", .glo "NotAllowed", .glo "is_amount", .int "LAST_DAY" 36524, .glo "is_day", .exc "BadDay", .glo "BadDay", .meth "Orders" "check_place", .meth "Orders" "by_key", .int "MOST_ORDERS" 500, .exc "Full", .glo "Full", .mkr "Order", .glo "Order", .meth "Orders" "row_for", .meth "Order" "require", .cls "Order", .meth "Orders" "place", .free "isinstance", .free "bool", .free "list", .glo "_law_same", .glo "_law_placed", .glo "_law_decides", .glo "_law_due"]
def faR2 : List He.Fa := [.exc "Missing", .glo "Missing", .meth "Orders" "at_number", .meth "Orders" "may", .meth "Orders" "waiting_for", .meth "Orders" "grant", .meth "Orders" "reject", .meth "Orders" "withdraw", .meth "Orders" "end", .meth "Orders" "complete", .meth "Orders" "fail", .free "enumerate", .meth "Orders" "expire", .glo "BankError", .glo "Damaged", .free "ValueError", .glo "_law_class", .glo "_law_call", .meth "Order" "told", .meth "Orders" "order", .glo "_law_stand", .glo "law"]
def faR : List He.Fa := faR0 ++ faR1 ++ faR2
def sbL_0 : List (Nat × Bool) := [(0, true), (1, true), (2, true), (3, true), (4, true), (5, true), (6, true), (7, true)]
def fa : List He.Fa := faR ++ (naFa clL flL naL ++ sbFa clL 0 sbL_0)
def fx0 : List Fx := [.val "ROLES" (.tup [(.str "teller"), (.str "officer"), (.str "chief")]), .exk "BankError", .exk "BadValue", .exk "BadDay", .exk "Missing", .exk "Refused", .exk "Full", .exk "NotAllowed", .exk "Damaged", .isi "BankError" "BadValue" false, .isi "BadValue" "BadValue" true, .isi "BadDay" "BadValue" false, .isi "Missing" "BadValue" false, .isi "Refused" "BadValue" false, .isi "Full" "BadValue" false, .isi "NotAllowed" "BadValue" false, .isi "Damaged" "BadValue" false, .isi "BankError" "BadDay" false, .isi "BadValue" "BadDay" false, .isi "BadDay" "BadDay" true, .isi "Missing" "BadDay" false, .isi "Refused" "BadDay" false, .isi "Full" "BadDay" false, .isi "NotAllowed" "BadDay" false, .isi "Damaged" "BadDay" false]
def fx1 : List Fx := [.isi "BankError" "Missing" false, .isi "BadValue" "Missing" false, .isi "BadDay" "Missing" false, .isi "Missing" "Missing" true, .isi "Refused" "Missing" false, .isi "Full" "Missing" false, .isi "NotAllowed" "Missing" false, .isi "Damaged" "Missing" false, .isi "BankError" "Refused" false, .isi "BadValue" "Refused" false, .isi "BadDay" "Refused" false, .isi "Missing" "Refused" false, .isi "Refused" "Refused" true, .isi "Full" "Refused" false, .isi "NotAllowed" "Refused" false, .isi "Damaged" "Refused" false, .isi "BankError" "Full" false, .isi "BadValue" "Full" false, .isi "BadDay" "Full" false, .isi "Missing" "Full" false, .isi "Refused" "Full" false, .isi "Full" "Full" true, .isi "NotAllowed" "Full" false, .isi "Damaged" "Full" false, .isi "BankError" "NotAllowed" false]
def fx2 : List Fx := [.isi "BadValue" "NotAllowed" false, .isi "BadDay" "NotAllowed" false, .isi "Missing" "NotAllowed" false, .isi "Refused" "NotAllowed" false, .isi "Full" "NotAllowed" false, .isi "NotAllowed" "NotAllowed" true, .isi "Damaged" "NotAllowed" false, .isi "BankError" "Damaged" false, .isi "BadValue" "Damaged" false, .isi "BadDay" "Damaged" false, .isi "Missing" "Damaged" false, .isi "Refused" "Damaged" false, .isi "Full" "Damaged" false, .isi "NotAllowed" "Damaged" false, .isi "Damaged" "Damaged" true, .isv "BankError" true, .isv "BadValue" true, .isv "BadDay" true, .isv "Missing" true, .isv "Refused" true, .isv "Full" true, .isv "NotAllowed" true, .isv "Damaged" true]
def fx : List Fx := fx0 ++ fx1 ++ fx2
abbrev TX (K : PySem.W.Frag) (mg : Str → Option Value) : Prop := Txt fa fn fx K mg
theorem fl_ok : nmB flL = true := by decide +kernel
theorem inj {K : PySem.W.Frag} : FnInj (tg K) := fnInj_of fl_ok
theorem bad_add_user {K : PySem.W.Frag} : ∀ f, (tg K).fn f = "add_user" → (none : Option Nat) = some f := badOf_ok fl_ok (by decide +kernel) (by decide +kernel)
theorem bad_at_number {K : PySem.W.Frag} : ∀ f, (tg K).fn f = "at_number" → (none : Option Nat) = some f := badOf_ok fl_ok (by decide +kernel) (by decide +kernel)
theorem bad_by_key {K : PySem.W.Frag} : ∀ f, (tg K).fn f = "by_key" → (none : Option Nat) = some f := badOf_ok fl_ok (by decide +kernel) (by decide +kernel)
theorem bad_check_place {K : PySem.W.Frag} : ∀ f, (tg K).fn f = "check_place" → (none : Option Nat) = some f := badOf_ok fl_ok (by decide +kernel) (by decide +kernel)
theorem bad_complete {K : PySem.W.Frag} : ∀ f, (tg K).fn f = "complete" → (none : Option Nat) = some f := badOf_ok fl_ok (by decide +kernel) (by decide +kernel)
theorem bad_end {K : PySem.W.Frag} : ∀ f, (tg K).fn f = "end" → (none : Option Nat) = some f := badOf_ok fl_ok (by decide +kernel) (by decide +kernel)
theorem bad_expire {K : PySem.W.Frag} : ∀ f, (tg K).fn f = "expire" → (none : Option Nat) = some f := badOf_ok fl_ok (by decide +kernel) (by decide +kernel)
theorem bad_fail {K : PySem.W.Frag} : ∀ f, (tg K).fn f = "fail" → (none : Option Nat) = some f := badOf_ok fl_ok (by decide +kernel) (by decide +kernel)
theorem bad_grant {K : PySem.W.Frag} : ∀ f, (tg K).fn f = "grant" → (none : Option Nat) = some f := badOf_ok fl_ok (by decide +kernel) (by decide +kernel)
theorem bad_may {K : PySem.W.Frag} : ∀ f, (tg K).fn f = "may" → (none : Option Nat) = some f := badOf_ok fl_ok (by decide +kernel) (by decide +kernel)
theorem bad_order {K : PySem.W.Frag} : ∀ f, (tg K).fn f = "order" → (none : Option Nat) = some f := badOf_ok fl_ok (by decide +kernel) (by decide +kernel)
theorem bad_place {K : PySem.W.Frag} : ∀ f, (tg K).fn f = "place" → (none : Option Nat) = some f := badOf_ok fl_ok (by decide +kernel) (by decide +kernel)
theorem bad_reject {K : PySem.W.Frag} : ∀ f, (tg K).fn f = "reject" → (none : Option Nat) = some f := badOf_ok fl_ok (by decide +kernel) (by decide +kernel)
theorem bad_require {K : PySem.W.Frag} : ∀ f, (tg K).fn f = "require" → (none : Option Nat) = some f := badOf_ok fl_ok (by decide +kernel) (by decide +kernel)
theorem bad_row_for {K : PySem.W.Frag} : ∀ f, (tg K).fn f = "row_for" → (none : Option Nat) = some f := badOf_ok fl_ok (by decide +kernel) (by decide +kernel)
theorem bad_set_rule {K : PySem.W.Frag} : ∀ f, (tg K).fn f = "set_rule" → (none : Option Nat) = some f := badOf_ok fl_ok (by decide +kernel) (by decide +kernel)
theorem bad_told {K : PySem.W.Frag} : ∀ f, (tg K).fn f = "told" → (none : Option Nat) = some f := badOf_ok fl_ok (by decide +kernel) (by decide +kernel)
theorem bad_waiting_for {K : PySem.W.Frag} : ∀ f, (tg K).fn f = "waiting_for" → (none : Option Nat) = some f := badOf_ok fl_ok (by decide +kernel) (by decide +kernel)
theorem bad_withdraw {K : PySem.W.Frag} : ∀ f, (tg K).fn f = "withdraw" → (none : Option Nat) = some f := badOf_ok fl_ok (by decide +kernel) (by decide +kernel)
section
variable {K : PySem.W.Frag} {mg : Str → Option Value} (T : TX K mg)
include T
theorem na_T : NaOk K (tg K) na := na_ok T (l := naL) fun f hf => List.mem_append_right _ (List.mem_append_left _ (hf))
theorem sb0_T : ∀ c b, sb_0 c = some b → PySem.W.exmOne K (.ref ((tg K).ca c)) (.ref ((tg K).ca 0)) = some b := sb_ok T (l := sbL_0) fun f hf => List.mem_append_right _ (List.mem_append_right _ hf)
theorem g_int : mg "int" = none := T.free 0
theorem g_range : mg "range" = none := T.free 1
theorem g__law_numbers : mg "_law_numbers" = some (.ref (He.ga K "_law_numbers")) := T.glo 2
theorem g_len : mg "len" = none := T.free 3
theorem g__law_name : mg "_law_name" = some (.ref (He.ga K "_law_name")) := T.glo 4
theorem g__law_other : mg "_law_other" = some (.ref (He.ga K "_law_other")) := T.glo 5
theorem g__law_users : mg "_law_users" = some (.ref (He.ga K "_law_users")) := T.glo 6
theorem mk_Orders : Mk K (He.ga K "Orders") (He.ma K (He.ga K "Orders") "__init__") := T.mkr 7
theorem g_Orders : mg "Orders" = some (.ref (He.ga K "Orders")) := T.glo 8
theorem g_LETTERS : ∃ t, mg "LETTERS" = some (.str "abcdefghijklmnopqrstuvwxyz" t) := T.str 9
theorem g_DIGITS : ∃ t, mg "DIGITS" = some (.str "0123456789" t) := T.str 10
theorem g_all : mg "all" = none := T.free 11
theorem g_is_name : mg "is_name" = some (.ref (He.ga K "is_name")) := T.glo 12
theorem ec_BadValue : ExcOk K (He.ga K "BadValue") := T.exc 13
theorem g_BadValue : mg "BadValue" = some (.ref (He.ga K "BadValue")) := T.glo 14
theorem g_check_name : mg "check_name" = some (.ref (He.ga K "check_name")) := T.glo 15
theorem ec_Refused : ExcOk K (He.ga K "Refused") := T.exc 16
theorem g_Refused : mg "Refused" = some (.ref (He.ga K "Refused")) := T.glo 17
theorem mt_Orders_add_user : Meth K (He.ga K "Orders") "add_user" (He.ma K (He.ga K "Orders") "add_user") := T.meth 18
theorem cl_Orders : Cls K (He.ga K "Orders") := T.cls (List.mem_append_left _ (List.mem_of_getElem? (i := 19) rfl))
theorem g_LIMIT : ∃ t, mg "LIMIT" = some (.int 1000000000 t) := T.int 20
theorem g_check_rule : mg "check_rule" = some (.ref (He.ga K "check_rule")) := T.glo 21
theorem g_tuple : mg "tuple" = none := T.free 22
theorem mt_Orders_set_rule : Meth K (He.ga K "Orders") "set_rule" (He.ma K (He.ga K "Orders") "set_rule") := T.meth 23
theorem g_str : mg "str" = none := T.free 24
theorem ec_NotAllowed : ExcOk K (He.ga K "NotAllowed") := T.exc 25
theorem g_NotAllowed : mg "NotAllowed" = some (.ref (He.ga K "NotAllowed")) := T.glo 26
theorem g_is_amount : mg "is_amount" = some (.ref (He.ga K "is_amount")) := T.glo 27
theorem g_LAST_DAY : ∃ t, mg "LAST_DAY" = some (.int 36524 t) := T.int 28
theorem g_is_day : mg "is_day" = some (.ref (He.ga K "is_day")) := T.glo 29
theorem ec_BadDay : ExcOk K (He.ga K "BadDay") := T.exc 30
theorem g_BadDay : mg "BadDay" = some (.ref (He.ga K "BadDay")) := T.glo 31
theorem mt_Orders_check_place : Meth K (He.ga K "Orders") "check_place" (He.ma K (He.ga K "Orders") "check_place") := T.meth 32
theorem mt_Orders_by_key : Meth K (He.ga K "Orders") "by_key" (He.ma K (He.ga K "Orders") "by_key") := T.meth 33
theorem g_MOST_ORDERS : ∃ t, mg "MOST_ORDERS" = some (.int 500 t) := T.int 34
theorem ec_Full : ExcOk K (He.ga K "Full") := T.exc 35
theorem g_Full : mg "Full" = some (.ref (He.ga K "Full")) := T.glo 36
theorem mk_Order : Mk K (He.ga K "Order") (He.ma K (He.ga K "Order") "__init__") := T.mkr 37
theorem g_Order : mg "Order" = some (.ref (He.ga K "Order")) := T.glo 38
theorem mt_Orders_row_for : Meth K (He.ga K "Orders") "row_for" (He.ma K (He.ga K "Orders") "row_for") := T.meth 39
theorem mt_Order_require : Meth K (He.ga K "Order") "require" (He.ma K (He.ga K "Order") "require") := T.meth 40
theorem cl_Order : Cls K (He.ga K "Order") := T.cls (List.mem_append_left _ (List.mem_of_getElem? (i := 41) rfl))
theorem mt_Orders_place : Meth K (He.ga K "Orders") "place" (He.ma K (He.ga K "Orders") "place") := T.meth 42
theorem g_isinstance : mg "isinstance" = none := T.free 43
theorem g_bool : mg "bool" = none := T.free 44
theorem g_list : mg "list" = none := T.free 45
theorem g__law_same : mg "_law_same" = some (.ref (He.ga K "_law_same")) := T.glo 46
theorem g__law_placed : mg "_law_placed" = some (.ref (He.ga K "_law_placed")) := T.glo 47
theorem g__law_decides : mg "_law_decides" = some (.ref (He.ga K "_law_decides")) := T.glo 48
theorem g__law_due : mg "_law_due" = some (.ref (He.ga K "_law_due")) := T.glo 49
theorem ec_Missing : ExcOk K (He.ga K "Missing") := T.exc 50
theorem g_Missing : mg "Missing" = some (.ref (He.ga K "Missing")) := T.glo 51
theorem mt_Orders_at_number : Meth K (He.ga K "Orders") "at_number" (He.ma K (He.ga K "Orders") "at_number") := T.meth 52
theorem mt_Orders_may : Meth K (He.ga K "Orders") "may" (He.ma K (He.ga K "Orders") "may") := T.meth 53
theorem mt_Orders_waiting_for : Meth K (He.ga K "Orders") "waiting_for" (He.ma K (He.ga K "Orders") "waiting_for") := T.meth 54
theorem mt_Orders_grant : Meth K (He.ga K "Orders") "grant" (He.ma K (He.ga K "Orders") "grant") := T.meth 55
theorem mt_Orders_reject : Meth K (He.ga K "Orders") "reject" (He.ma K (He.ga K "Orders") "reject") := T.meth 56
theorem mt_Orders_withdraw : Meth K (He.ga K "Orders") "withdraw" (He.ma K (He.ga K "Orders") "withdraw") := T.meth 57
theorem mt_Orders_end : Meth K (He.ga K "Orders") "end" (He.ma K (He.ga K "Orders") "end") := T.meth 58
theorem mt_Orders_complete : Meth K (He.ga K "Orders") "complete" (He.ma K (He.ga K "Orders") "complete") := T.meth 59
theorem mt_Orders_fail : Meth K (He.ga K "Orders") "fail" (He.ma K (He.ga K "Orders") "fail") := T.meth 60
theorem g_enumerate : mg "enumerate" = none := T.free 61
theorem mt_Orders_expire : Meth K (He.ga K "Orders") "expire" (He.ma K (He.ga K "Orders") "expire") := T.meth 62
theorem g_BankError : mg "BankError" = some (.ref (He.ga K "BankError")) := T.glo 63
theorem g_Damaged : mg "Damaged" = some (.ref (He.ga K "Damaged")) := T.glo 64
theorem g_ValueError : mg "ValueError" = none := T.free 65
theorem g__law_class : mg "_law_class" = some (.ref (He.ga K "_law_class")) := T.glo 66
theorem g__law_call : mg "_law_call" = some (.ref (He.ga K "_law_call")) := T.glo 67
theorem mt_Order_told : Meth K (He.ga K "Order") "told" (He.ma K (He.ga K "Order") "told") := T.meth 68
theorem mt_Orders_order : Meth K (He.ga K "Orders") "order" (He.ma K (He.ga K "Orders") "order") := T.meth 69
theorem g__law_stand : mg "_law_stand" = some (.ref (He.ga K "_law_stand")) := T.glo 70
theorem g_law : mg "law" = some (.ref (He.ga K "law")) := T.glo 71
theorem g_ROLES : ∃ u, mg "ROLES" = some u ∧ ∃ v, RelV v u ∧ ∀ ρ H, RV K (tg K) ρ H c_ROLES v := T.val 0
theorem gT_ROLES : ∃ a, mg "ROLES" = some (.ref a) ∧ (∃ o, K.lookup a = some o ∧ o.cls = .type "tuple" ∧ o.dict = none) ∧ ∀ ρ H, RV K (tg K) ρ H c_ROLES (.ref a) := T.valT 0
end
theorem ish_BadValue : ∀ f ∈ isFx clL 1 tab_BadValue, f ∈ fx := fxSub (by decide +kernel)
theorem ish_BadDay : ∀ f ∈ isFx clL 2 tab_BadDay, f ∈ fx := fxSub (by decide +kernel)
theorem ish_Missing : ∀ f ∈ isFx clL 3 tab_Missing, f ∈ fx := fxSub (by decide +kernel)
theorem ish_Refused : ∀ f ∈ isFx clL 4 tab_Refused, f ∈ fx := fxSub (by decide +kernel)
theorem ish_Full : ∀ f ∈ isFx clL 5 tab_Full, f ∈ fx := fxSub (by decide +kernel)
theorem ish_NotAllowed : ∀ f ∈ isFx clL 6 tab_NotAllowed, f ∈ fx := fxSub (by decide +kernel)
theorem ish_Damaged : ∀ f ∈ isFx clL 7 tab_Damaged, f ∈ fx := fxSub (by decide +kernel)
theorem ivh : ∀ f ∈ ivFx clL tab_ValueError, f ∈ fx := fxSub (by decide +kernel)
theorem exh_BadValue : ∀ f ∈ exFx clL tab_BadValue, f ∈ fx := fxSub (by decide +kernel)
theorem exh_BadDay : ∀ f ∈ exFx clL tab_BadDay, f ∈ fx := fxSub (by decide +kernel)
theorem exh_Missing : ∀ f ∈ exFx clL tab_Missing, f ∈ fx := fxSub (by decide +kernel)
theorem exh_Refused : ∀ f ∈ exFx clL tab_Refused, f ∈ fx := fxSub (by decide +kernel)
theorem exh_Full : ∀ f ∈ exFx clL tab_Full, f ∈ fx := fxSub (by decide +kernel)
theorem exh_NotAllowed : ∀ f ∈ exFx clL tab_NotAllowed, f ∈ fx := fxSub (by decide +kernel)
theorem exh_Damaged : ∀ f ∈ exFx clL tab_Damaged, f ∈ fx := fxSub (by decide +kernel)
theorem exh_ValueError : ∀ f ∈ exFx clL tab_ValueError, f ∈ fx := fxSub (by decide +kernel)
/-! ### the defs -/
section
variable {P : Program} {w : World} {K : PySem.W.Frag} {mg : Str → Option Value} {base : Heap}
def N_law_numbers : List Str := ["_law_cell", "_law_count", "_law_seed", "_law_rest", "_law_numbers_here", "_law_k", "_law_mixed"]
theorem S_law_numbers : FnScope N_law_numbers ["_law_cell", "_law_count"] (defScope (top 27)) := ⟨rfl, rfl, rfl, by decide +kernel, rfl, by decide +kernel, by decide +kernel⟩
def VI_law_numbers : List Nat := [0, 1, 2, 3, 4, 5, 6]
theorem V_law_numbers : visI (defScope (top 27)) N_law_numbers VI_law_numbers = true := by decide +kernel
def SI_law_numbers : List Nat := [2, 3, 4, 5, 6]
theorem ST_law_numbers : stoI (defScope (top 27)) (fun _ => true) N_law_numbers SI_law_numbers = true := by decide +kernel
def GL_law_numbers : List Str := ["int", "range"]
theorem G_law_numbers : glI (defScope (top 27)) GL_law_numbers = true := by decide +kernel
theorem f_law_numbers (T : TX K mg) : FnR P w K mg base 1 (He.ga K "_law_numbers") (spF K (tg K) m_law_numbers) := by
  refine fnR (x := "_law_numbers") (qual := "_law_numbers") (scope := d_law_numbers.scope) (body := d_law_numbers.body) (params := d_law_numbers.params) (N := N_law_numbers) (ps := ["_law_cell", "_law_count"]) (k := 0) (mb := b_law_numbers) (T.dfn (d := d_law_numbers) 0 rfl) S_law_numbers (fun _ _ _ _ _ _ us hl => match us, hl with | [_, _], _ => rfl) (fun cdv A outer s H E hr => ?_)
  exact (fss_cons (fs_st (is := SI_law_numbers) 2 S_law_numbers.nd ST_law_numbers (fe_op of_mul fe_int (fe_bt bt_int cf_int (glx (L := GL_law_numbers) (j := 0) G_law_numbers rfl) (g_int T) (fa_cons (fe_vr (is := VI_law_numbers) 0 V_law_numbers) fa_nil))))
    (fss_cons (fs_if (ft_cmp of_lt (fe_vr (is := VI_law_numbers) 2 V_law_numbers) fe_int rfl) (fss_one (fs_st (is := SI_law_numbers) 2 S_law_numbers.nd ST_law_numbers (fe_op of_sub (fe_op of_sub fe_int (fe_vr (is := VI_law_numbers) 2 V_law_numbers)) fe_int))) fss_nil)
    (fss_cons (fs_st (is := SI_law_numbers) 3 S_law_numbers.nd ST_law_numbers fe_int)
    (fss_cons (fs_if (ft_cmp of_ge (fe_vr (is := VI_law_numbers) 2 V_law_numbers) (fe_op of_pow fe_int fe_int) rfl) (fss_one (fs_st (is := SI_law_numbers) 3 S_law_numbers.nd ST_law_numbers (fe_vr (is := VI_law_numbers) 2 V_law_numbers))) fss_nil)
    (fss_cons (fs_st (is := SI_law_numbers) 4 S_law_numbers.nd ST_law_numbers (fe_lst fa_nil))
    (fss_cons (fs_for passD rfl (fi_rng1 (glx (L := GL_law_numbers) (j := 1) G_law_numbers rfl).gl (g_range T) (fa_cons (fe_vr (is := VI_law_numbers) 1 V_law_numbers) fa_nil)) (fg_nm (is := SI_law_numbers) 5 S_law_numbers.nd ST_law_numbers)
      (fss_one (fs_if (ft_cmp of_gt (fe_vr (is := VI_law_numbers) 3 V_law_numbers) fe_int rfl) (fss_cons (fs_expr (fe_append (fe_vr (is := VI_law_numbers) 4 V_law_numbers) (fa_cons (fe_op of_mod (fe_bt bt_int cf_int (glx (L := GL_law_numbers) (j := 0) G_law_numbers rfl) (g_int T) (fa_cons (fe_vr (is := VI_law_numbers) 3 V_law_numbers) fa_nil)) fe_int) fa_nil)))
    (fss_one (fs_st (is := SI_law_numbers) 3 S_law_numbers.nd ST_law_numbers (fe_op of_fdiv (fe_vr (is := VI_law_numbers) 3 V_law_numbers) fe_int)))) (fss_cons (fs_st (is := SI_law_numbers) 6 S_law_numbers.nd ST_law_numbers (fe_op of_mod (fe_bt bt_int cf_int (glx (L := GL_law_numbers) (j := 0) G_law_numbers rfl) (g_int T) (fa_cons (fe_op of_add (fe_op of_add (fe_op of_mul (fe_vr (is := VI_law_numbers) 2 V_law_numbers) fe_int) (fe_op of_mul (fe_vr (is := VI_law_numbers) 5 V_law_numbers) fe_int)) fe_int) fa_nil)) fe_int))
    (fss_cons (fs_st (is := SI_law_numbers) 6 S_law_numbers.nd ST_law_numbers (fe_op of_mul (fe_op of_mul (fe_op of_add (fe_op of_mod (fe_bt bt_int cf_int (glx (L := GL_law_numbers) (j := 0) G_law_numbers rfl) (g_int T) (fa_cons (fe_vr (is := VI_law_numbers) 6 V_law_numbers) fa_nil)) fe_int) fe_int) (fe_op of_add (fe_op of_add (fe_op of_fdiv (fe_vr (is := VI_law_numbers) 6 V_law_numbers) fe_int) (fe_op of_mul fe_int (fe_vr (is := VI_law_numbers) 5 V_law_numbers))) fe_int)) fe_int))
    (fss_one (fs_expr (fe_append (fe_vr (is := VI_law_numbers) 4 V_law_numbers) (fa_cons (fe_op of_fdiv (fe_op of_mod (fe_bt bt_int cf_int (glx (L := GL_law_numbers) (j := 0) G_law_numbers rfl) (g_int T) (fa_cons (fe_vr (is := VI_law_numbers) 6 V_law_numbers) fa_nil)) fe_int) fe_int) fa_nil)))))))))
    (fss_one (fs_ret (fe_vr (is := VI_law_numbers) 4 V_law_numbers)))))))))
def N_law_name : List Str := ["_law_n", "_law_size", "_law_signs", "_law_text", "_law_rest", "_law_at"]
theorem S_law_name : FnScope N_law_name ["_law_n", "_law_size"] (defScope (top 29)) := ⟨rfl, rfl, rfl, by decide +kernel, rfl, by decide +kernel, by decide +kernel⟩
def VI_law_name : List Nat := [0, 1, 2, 3, 4, 5]
theorem V_law_name : visI (defScope (top 29)) N_law_name VI_law_name = true := by decide +kernel
def SI_law_name : List Nat := [2, 3, 4, 5]
theorem ST_law_name : stoI (defScope (top 29)) (fun _ => true) N_law_name SI_law_name = true := by decide +kernel
def GL_law_name : List Str := ["int", "range"]
theorem G_law_name : glI (defScope (top 29)) GL_law_name = true := by decide +kernel
theorem f_law_name (T : TX K mg) : FnR P w K mg base 1 (He.ga K "_law_name") (spF K (tg K) m_law_name) := by
  refine fnR (x := "_law_name") (qual := "_law_name") (scope := d_law_name.scope) (body := d_law_name.body) (params := d_law_name.params) (N := N_law_name) (ps := ["_law_n", "_law_size"]) (k := 0) (mb := b_law_name) (T.dfn (d := d_law_name) 1 rfl) S_law_name (fun _ _ _ _ _ _ us hl => match us, hl with | [_, _], _ => rfl) (fun cdv A outer s H E hr => ?_)
  exact (fss_cons (fs_st (is := SI_law_name) 2 S_law_name.nd ST_law_name fe_str)
    (fss_cons (fs_st (is := SI_law_name) 3 S_law_name.nd ST_law_name (fe_ix (hu_of hr) (fe_vr (is := VI_law_name) 2 V_law_name) (fe_op of_mod (fe_bt bt_int cf_int (glx (L := GL_law_name) (j := 0) G_law_name rfl) (g_int T) (fa_cons (fe_vr (is := VI_law_name) 0 V_law_name) fa_nil)) fe_int)))
    (fss_cons (fs_st (is := SI_law_name) 4 S_law_name.nd ST_law_name (fe_op of_fdiv (fe_vr (is := VI_law_name) 0 V_law_name) fe_int))
    (fss_cons (fs_for passD rfl (fi_rng1 (glx (L := GL_law_name) (j := 1) G_law_name rfl).gl (g_range T) (fa_cons (fe_op of_sub (fe_vr (is := VI_law_name) 1 V_law_name) fe_int) fa_nil)) (fg_nm (is := SI_law_name) 5 S_law_name.nd ST_law_name)
      (fss_cons (fs_st (is := SI_law_name) 3 S_law_name.nd ST_law_name (fe_op of_add (fe_vr (is := VI_law_name) 3 V_law_name) (fe_ix (hu_of hr) (fe_vr (is := VI_law_name) 2 V_law_name) (fe_op of_mod (fe_bt bt_int cf_int (glx (L := GL_law_name) (j := 0) G_law_name rfl) (g_int T) (fa_cons (fe_op of_add (fe_vr (is := VI_law_name) 4 V_law_name) (fe_op of_mul fe_int (fe_vr (is := VI_law_name) 5 V_law_name))) fa_nil)) fe_int))))
    (fss_one (fs_st (is := SI_law_name) 4 S_law_name.nd ST_law_name (fe_op of_fdiv (fe_vr (is := VI_law_name) 4 V_law_name) fe_int)))))
    (fss_one (fs_ret (fe_vr (is := VI_law_name) 3 V_law_name)))))))
def N_law_other : List Str := ["_law_text", "_law_n", "_law_new", "_law_second", "_law_place"]
theorem S_law_other : FnScope N_law_other ["_law_text", "_law_n", "_law_new", "_law_second"] (defScope (top 30)) := ⟨rfl, rfl, rfl, by decide +kernel, rfl, by decide +kernel, by decide +kernel⟩
def VI_law_other : List Nat := [0, 1, 2, 3, 4]
theorem V_law_other : visI (defScope (top 30)) N_law_other VI_law_other = true := by decide +kernel
def SI_law_other : List Nat := [4]
theorem ST_law_other : stoI (defScope (top 30)) (fun _ => true) N_law_other SI_law_other = true := by decide +kernel
def GL_law_other : List Str := ["int", "len"]
theorem G_law_other : glI (defScope (top 30)) GL_law_other = true := by decide +kernel
theorem f_law_other (T : TX K mg) : FnR P w K mg base 1 (He.ga K "_law_other") (spF K (tg K) m_law_other) := by
  refine fnR (x := "_law_other") (qual := "_law_other") (scope := d_law_other.scope) (body := d_law_other.body) (params := d_law_other.params) (N := N_law_other) (ps := ["_law_text", "_law_n", "_law_new", "_law_second"]) (k := 0) (mb := b_law_other) (T.dfn (d := d_law_other) 2 rfl) S_law_other (fun _ _ _ _ _ _ us hl => match us, hl with | [_, _, _, _], _ => rfl) (fun cdv A outer s H E hr => ?_)
  exact (fss_cons (fs_st (is := SI_law_other) 4 S_law_other.nd ST_law_other (fe_op of_mod (fe_bt bt_int cf_int (glx (L := GL_law_other) (j := 0) G_law_other rfl) (g_int T) (fa_cons (fe_vr (is := VI_law_other) 1 V_law_other) fa_nil)) (fe_bb bt_len cf_len (glx (L := GL_law_other) (j := 1) G_law_other rfl) (g_len T) (fa_cons (fe_vr (is := VI_law_other) 0 V_law_other) fa_nil))))
    (fss_cons (fs_if (ft_cmp (of_eq (hr.units)) (fe_ix (hu_of hr) (fe_vr (is := VI_law_other) 0 V_law_other) (fe_vr (is := VI_law_other) 4 V_law_other)) (fe_vr (is := VI_law_other) 2 V_law_other) rfl) (fss_one (fs_ret (fe_op of_add (fe_op of_add (fe_sl (fe_vr (is := VI_law_other) 0 V_law_other) fo_none (fo_some (fe_vr (is := VI_law_other) 4 V_law_other))) (fe_vr (is := VI_law_other) 3 V_law_other)) (fe_sl (fe_vr (is := VI_law_other) 0 V_law_other) (fo_some (fe_op of_add (fe_vr (is := VI_law_other) 4 V_law_other) fe_int)) fo_none)))) fss_nil)
    (fss_one (fs_ret (fe_op of_add (fe_op of_add (fe_sl (fe_vr (is := VI_law_other) 0 V_law_other) fo_none (fo_some (fe_vr (is := VI_law_other) 4 V_law_other))) (fe_vr (is := VI_law_other) 2 V_law_other)) (fe_sl (fe_vr (is := VI_law_other) 0 V_law_other) (fo_some (fe_op of_add (fe_vr (is := VI_law_other) 4 V_law_other) fe_int)) fo_none))))))
def N_law_users : List Str := ["_law_numbers_here", "_law_name_here", "_law_users_here", "_law_k"]
theorem S_law_users : FnScope N_law_users ["_law_numbers_here"] (defScope (top 32)) := ⟨rfl, rfl, rfl, by decide +kernel, rfl, by decide +kernel, by decide +kernel⟩
def VI_law_users : List Nat := [0, 1, 2, 3]
theorem V_law_users : visI (defScope (top 32)) N_law_users VI_law_users = true := by decide +kernel
def SI_law_users : List Nat := [1, 2, 3]
theorem ST_law_users : stoI (defScope (top 32)) (fun _ => true) N_law_users SI_law_users = true := by decide +kernel
def GL_law_users : List Str := ["int", "_law_name", "_law_other", "range"]
theorem G_law_users : glI (defScope (top 32)) GL_law_users = true := by decide +kernel
theorem f_law_users (T : TX K mg) : FnR P w K mg base 2 (He.ga K "_law_users") (spF K (tg K) m_law_users) := by
  refine fnR (x := "_law_users") (qual := "_law_users") (scope := d_law_users.scope) (body := d_law_users.body) (params := d_law_users.params) (N := N_law_users) (ps := ["_law_numbers_here"]) (k := 1) (mb := b_law_users) (T.dfn (d := d_law_users) 3 rfl) S_law_users (fun _ _ _ _ _ _ us hl => match us, hl with | [_], _ => rfl) (fun cdv A outer s H E hr => ?_)
  exact (fss_cons (fs_st (is := SI_law_users) 1 S_law_users.nd ST_law_users (fe_ca (FnR.cal (f_law_name T) (hr.mono (by decide))) (glx (L := GL_law_users) (j := 1) G_law_users rfl) (g__law_name T) takesD (fa_cons (fe_ix (hu_of hr) (fe_vr (is := VI_law_users) 0 V_law_users) fe_int) (fa_cons (fe_op of_add fe_int (fe_op of_mod (fe_bt bt_int cf_int (glx (L := GL_law_users) (j := 0) G_law_users rfl) (g_int T) (fa_cons (fe_ix (hu_of hr) (fe_vr (is := VI_law_users) 0 V_law_users) fe_int) fa_nil)) fe_int)) fa_nil))))
    (fss_cons (fs_st (is := SI_law_users) 2 S_law_users.nd ST_law_users (fe_lst (fa_cons (fe_vr (is := VI_law_users) 1 V_law_users) fa_nil)))
    (fss_cons (fs_for passD rfl (fi_rng1 (glx (L := GL_law_users) (j := 3) G_law_users rfl).gl (g_range T) (fa_cons fe_int fa_nil)) (fg_nm (is := SI_law_users) 3 S_law_users.nd ST_law_users)
      (fss_one (fs_expr (fe_append (fe_vr (is := VI_law_users) 2 V_law_users) (fa_cons (fe_ca (FnR.cal (f_law_other T) (hr.mono (by decide))) (glx (L := GL_law_users) (j := 2) G_law_users rfl) (g__law_other T) takesD (fa_cons (fe_vr (is := VI_law_users) 1 V_law_users) (fa_cons (fe_ix (hu_of hr) (fe_vr (is := VI_law_users) 0 V_law_users) (fe_op of_add fe_int (fe_vr (is := VI_law_users) 3 V_law_users))) (fa_cons (fe_ix (hu_of hr) fe_str (fe_vr (is := VI_law_users) 3 V_law_users)) (fa_cons (fe_ix (hu_of hr) fe_str (fe_vr (is := VI_law_users) 3 V_law_users)) fa_nil))))) fa_nil)))))
    (fss_one (fs_ret (fe_vr (is := VI_law_users) 2 V_law_users))))))
def N_Orders_init : List Str := ["self"]
theorem S_Orders_init : FnScope N_Orders_init ["self"] (defScope (inClass (top 25) 0)) := ⟨rfl, rfl, rfl, by decide +kernel, rfl, by decide +kernel, by decide +kernel⟩
def VI_Orders_init : List Nat := [0]
theorem V_Orders_init : visI (defScope (inClass (top 25) 0)) N_Orders_init VI_Orders_init = true := by decide +kernel
def SI_Orders_init : List Nat := []
theorem ST_Orders_init : stoI (defScope (inClass (top 25) 0)) (fun _ => true) N_Orders_init SI_Orders_init = true := by decide +kernel
def GL_Orders_init : List Str := []
theorem G_Orders_init : glI (defScope (inClass (top 25) 0)) GL_Orders_init = true := by decide +kernel
theorem f_Orders_init (T : TX K mg) : FnR P w K mg base 1 (He.ma K (He.ga K "Orders") "__init__") (spF K (tg K) m_Orders_init) := by
  refine fnR (x := "__init__") (qual := "Orders.__init__") (scope := d_Orders_init.scope) (body := d_Orders_init.body) (params := d_Orders_init.params) (N := N_Orders_init) (ps := ["self"]) (k := 0) (mb := b_Orders_init) (T.dfn (d := d_Orders_init) 4 rfl) S_Orders_init (fun _ _ _ _ _ _ us hl => match us, hl with | [_], _ => rfl) (fun cdv A outer s H E hr => ?_)
  exact (fss_cons (fs_fld (f := 9) rfl inj (na_T T) (fe_vr (is := VI_Orders_init) 0 V_Orders_init) fe_dct0)
    (fss_cons (fs_fld (f := 10) rfl inj (na_T T) (fe_vr (is := VI_Orders_init) 0 V_Orders_init) fe_dct0)
    (fss_cons (fs_fld (f := 11) rfl inj (na_T T) (fe_vr (is := VI_Orders_init) 0 V_Orders_init) (fe_lst fa_nil))
    (fss_one (fs_fld (f := 12) rfl inj (na_T T) (fe_vr (is := VI_Orders_init) 0 V_Orders_init) fe_dct0)))))
def N_is_name : List Str := ["text", "sign"]
theorem S_is_name : FnScope N_is_name ["text"] (defScope (top 21)) := ⟨rfl, rfl, rfl, by decide +kernel, rfl, by decide +kernel, by decide +kernel⟩
def VI_is_name : List Nat := [0]
theorem V_is_name : visI (defScope (top 21)) N_is_name VI_is_name = true := by decide +kernel
def SI_is_name : List Nat := []
theorem ST_is_name : stoI (defScope (top 21)) (fun _ => true) N_is_name SI_is_name = true := by decide +kernel
def GL_is_name : List Str := ["len", "LETTERS", "all"]
theorem G_is_name : glI (defScope (top 21)) GL_is_name = true := by decide +kernel
theorem f_is_name (T : TX K mg) : FnR P w K mg base 1 (He.ga K "is_name") (spF K (tg K) m_is_name) := by
  refine fnR (x := "is_name") (qual := "is_name") (scope := d_is_name.scope) (body := d_is_name.body) (params := d_is_name.params) (N := N_is_name) (ps := ["text"]) (k := 0) (mb := b_is_name) (T.dfn (d := d_is_name) 5 rfl) S_is_name (fun _ _ _ _ _ _ us hl => match us, hl with | [_], _ => rfl) (fun cdv A outer s H E hr => ?_)
  exact (fss_cons (fs_if (PW.pt (fw_or (ft_not (ft_chain of_le of_le fe_int (fe_bb bt_len cf_len (glx (L := GL_is_name) (j := 0) G_is_name rfl) (g_len T) (fa_cons (fe_vr (is := VI_is_name) 0 V_is_name) fa_nil)) fe_int)) (fw_or1 (ft_cmp (of_notIn (hu_of hr)) (fe_ix (hu_of hr) (fe_vr (is := VI_is_name) 0 V_is_name) fe_int) (fe_gs (glx (L := GL_is_name) (j := 1) G_is_name rfl) (g_LETTERS T)) rfl)))) (fss_one (fs_ret fe_bl)) fss_nil)
    (fss_one (fs_ret (fe_bb bt_all (cf_all rfl) (glx (L := GL_is_name) (j := 2) G_is_name rfl) (g_all T) (fa_cons (fe_lc (own := [("sign", 1)]) rfl S_is_name.nd (blkOk_by (by kernel_rfl)) (fi_seq (fe_vr (is := VI_is_name) 0 V_is_name)) (fun _ _ _ _ _ => (fg_nm (is := [1]) 1 S_is_name.nd (by kernel_rfl))) (fun _ _ _ _ _ => fts_nil) (fun _ _ _ _ _ => (fe_or (fe_cmp (of_in (hu_of hr)) (fe_vr (is := [1]) 1 (by kernel_rfl)) (fe_gs (glx (L := ["LETTERS"]) (j := 0) (by kernel_rfl) rfl) (g_LETTERS T)) rfl) (fe_one (fe_cmp (of_in (hu_of hr)) (fe_vr (is := [1]) 1 (by kernel_rfl)) (fe_gs (glx (L := ["DIGITS"]) (j := 0) (by kernel_rfl) rfl) (g_DIGITS T)) rfl))))) fa_nil)))))
def N_check_name : List Str := ["text"]
theorem S_check_name : FnScope N_check_name ["text"] (defScope (top 22)) := ⟨rfl, rfl, rfl, by decide +kernel, rfl, by decide +kernel, by decide +kernel⟩
def VI_check_name : List Nat := [0]
theorem V_check_name : visI (defScope (top 22)) N_check_name VI_check_name = true := by decide +kernel
def SI_check_name : List Nat := []
theorem ST_check_name : stoI (defScope (top 22)) (fun _ => true) N_check_name SI_check_name = true := by decide +kernel
def GL_check_name : List Str := ["is_name", "BadValue"]
theorem G_check_name : glI (defScope (top 22)) GL_check_name = true := by decide +kernel
theorem f_check_name (T : TX K mg) : FnR P w K mg base 2 (He.ga K "check_name") (spF K (tg K) m_check_name) := by
  refine fnR (x := "check_name") (qual := "check_name") (scope := d_check_name.scope) (body := d_check_name.body) (params := d_check_name.params) (N := N_check_name) (ps := ["text"]) (k := 1) (mb := b_check_name) (T.dfn (d := d_check_name) 6 rfl) S_check_name (fun _ _ _ _ _ _ us hl => match us, hl with | [_], _ => rfl) (fun cdv A outer s H E hr => ?_)
  exact (fss_one (fs_if (ft_not (ft_tru (fe_ca (FnR.cal (f_is_name T) (hr.mono (by decide))) (glx (L := GL_check_name) (j := 0) G_check_name rfl) (g_is_name T) takesD (fa_cons (fe_vr (is := VI_check_name) 0 V_check_name) fa_nil)))) (fss_one (fs_ra (c := 1) rfl takesD (ec_BadValue T) (glx (L := GL_check_name) (j := 1) G_check_name rfl) (g_BadValue T))) fss_nil))
def N_Orders_add_user : List Str := ["self", "name", "role"]
theorem S_Orders_add_user : FnScope N_Orders_add_user ["self", "name", "role"] (defScope (inClass (top 25) 1)) := ⟨rfl, rfl, rfl, by decide +kernel, rfl, by decide +kernel, by decide +kernel⟩
def VI_Orders_add_user : List Nat := [0, 1, 2]
theorem V_Orders_add_user : visI (defScope (inClass (top 25) 1)) N_Orders_add_user VI_Orders_add_user = true := by decide +kernel
def SI_Orders_add_user : List Nat := []
theorem ST_Orders_add_user : stoI (defScope (inClass (top 25) 1)) (fun _ => true) N_Orders_add_user SI_Orders_add_user = true := by decide +kernel
def GL_Orders_add_user : List Str := ["check_name", "ROLES", "BadValue", "Refused"]
theorem G_Orders_add_user : glI (defScope (inClass (top 25) 1)) GL_Orders_add_user = true := by decide +kernel
theorem f_Orders_add_user (T : TX K mg) : FnR P w K mg base 3 (He.ma K (He.ga K "Orders") "add_user") (spF K (tg K) m_Orders_add_user) := by
  refine fnR (x := "add_user") (qual := "Orders.add_user") (scope := d_Orders_add_user.scope) (body := d_Orders_add_user.body) (params := d_Orders_add_user.params) (N := N_Orders_add_user) (ps := ["self", "name", "role"]) (k := 2) (mb := b_Orders_add_user) (T.dfn (d := d_Orders_add_user) 7 rfl) S_Orders_add_user (fun _ _ _ _ _ _ us hl => match us, hl with | [_, _, _], _ => rfl) (fun cdv A outer s H E hr => ?_)
  exact (fss_cons (fs_expr (fe_ca (FnR.cal (f_check_name T) (hr.mono (by decide))) (glx (L := GL_Orders_add_user) (j := 0) G_Orders_add_user rfl) (g_check_name T) takesD (fa_cons (fe_vr (is := VI_Orders_add_user) 1 V_Orders_add_user) fa_nil)))
    (fss_cons (fs_if (ft_cmp (of_notIn (hu_of hr)) (fe_vr (is := VI_Orders_add_user) 2 V_Orders_add_user) (fe_gv (glx (L := GL_Orders_add_user) (j := 1) G_Orders_add_user rfl) (g_ROLES T)) rfl) (fss_one (fs_ra (c := 1) rfl takesD (ec_BadValue T) (glx (L := GL_Orders_add_user) (j := 2) G_Orders_add_user rfl) (g_BadValue T))) fss_nil)
    (fss_cons (fs_if (ft_cmp (of_in (hu_of hr)) (fe_vr (is := VI_Orders_add_user) 1 V_Orders_add_user) (fe_fld (f := 9) rfl inj (na_T T) (fe_vr (is := VI_Orders_add_user) 0 V_Orders_add_user)) rfl) (fss_one (fs_ra (c := 4) rfl takesD (ec_Refused T) (glx (L := GL_Orders_add_user) (j := 3) G_Orders_add_user rfl) (g_Refused T))) fss_nil)
    (fss_one (fs_sub (hu_of hr) (fe_fld (f := 9) rfl inj (na_T T) (fe_vr (is := VI_Orders_add_user) 0 V_Orders_add_user)) (fe_vr (is := VI_Orders_add_user) 1 V_Orders_add_user) (fe_vr (is := VI_Orders_add_user) 2 V_Orders_add_user))))))
def N_check_rule : List Str := ["rows", "last", "least", "grants", "role"]
theorem S_check_rule : FnScope N_check_rule ["rows"] (defScope (top 23)) := ⟨rfl, rfl, rfl, by decide +kernel, rfl, by decide +kernel, by decide +kernel⟩
def VI_check_rule : List Nat := [0, 1, 2, 3, 4]
theorem V_check_rule : visI (defScope (top 23)) N_check_rule VI_check_rule = true := by decide +kernel
def SI_check_rule : List Nat := [1, 2, 3, 4]
theorem ST_check_rule : stoI (defScope (top 23)) (fun _ => true) N_check_rule SI_check_rule = true := by decide +kernel
def GL_check_rule : List Str := ["len", "BadValue", "LIMIT", "ROLES"]
theorem G_check_rule : glI (defScope (top 23)) GL_check_rule = true := by decide +kernel
theorem f_check_rule (T : TX K mg) : FnR P w K mg base 1 (He.ga K "check_rule") (spF K (tg K) m_check_rule) := by
  refine fnR (x := "check_rule") (qual := "check_rule") (scope := d_check_rule.scope) (body := d_check_rule.body) (params := d_check_rule.params) (N := N_check_rule) (ps := ["rows"]) (k := 0) (mb := b_check_rule) (T.dfn (d := d_check_rule) 8 rfl) S_check_rule (fun _ _ _ _ _ _ us hl => match us, hl with | [_], _ => rfl) (fun cdv A outer s H E hr => ?_)
  exact (fss_cons (fs_if (ft_not (ft_chain of_le of_le fe_int (fe_bb bt_len cf_len (glx (L := GL_check_rule) (j := 0) G_check_rule rfl) (g_len T) (fa_cons (fe_vr (is := VI_check_rule) 0 V_check_rule) fa_nil)) fe_int)) (fss_one (fs_ra (c := 1) rfl takesD (ec_BadValue T) (glx (L := GL_check_rule) (j := 1) G_check_rule rfl) (g_BadValue T))) fss_nil)
    (fss_cons (fs_st (is := SI_check_rule) 1 S_check_rule.nd ST_check_rule (fe_neg fe_int))
    (fss_one (fs_for passD rfl (fi_seq (fe_vr (is := VI_check_rule) 0 V_check_rule)) (fg_tup rfl (fgs_cons (fg_nm (is := SI_check_rule) 2 S_check_rule.nd ST_check_rule) (fgs_cons (fg_nm (is := SI_check_rule) 3 S_check_rule.nd ST_check_rule) (fgs_cons (fg_nm (is := SI_check_rule) 4 S_check_rule.nd ST_check_rule) fgs_nil))))
      (fss_cons (fs_if (PW.pt (fw_or (ft_cmp of_le (fe_vr (is := VI_check_rule) 2 V_check_rule) (fe_vr (is := VI_check_rule) 1 V_check_rule) rfl) (fw_or (ft_cmp of_gt (fe_vr (is := VI_check_rule) 2 V_check_rule) (fe_gi (glx (L := GL_check_rule) (j := 2) G_check_rule rfl) (g_LIMIT T)) rfl) (fw_or1 (PW.pt (fw_and (ft_cmp of_lt (fe_vr (is := VI_check_rule) 1 V_check_rule) fe_int rfl) (fw_and1 (ft_cmp (of_ne (hr.units)) (fe_vr (is := VI_check_rule) 2 V_check_rule) fe_int rfl)))))))) (fss_one (fs_ra (c := 1) rfl takesD (ec_BadValue T) (glx (L := GL_check_rule) (j := 1) G_check_rule rfl) (g_BadValue T))) fss_nil)
    (fss_cons (fs_if (ft_not (ft_chain of_le of_le fe_int (fe_vr (is := VI_check_rule) 3 V_check_rule) fe_int)) (fss_one (fs_ra (c := 1) rfl takesD (ec_BadValue T) (glx (L := GL_check_rule) (j := 1) G_check_rule rfl) (g_BadValue T))) fss_nil)
    (fss_cons (fs_if (ft_cmp (of_notIn (hu_of hr)) (fe_vr (is := VI_check_rule) 4 V_check_rule) (fe_gv (glx (L := GL_check_rule) (j := 3) G_check_rule rfl) (g_ROLES T)) rfl) (fss_one (fs_ra (c := 1) rfl takesD (ec_BadValue T) (glx (L := GL_check_rule) (j := 1) G_check_rule rfl) (g_BadValue T))) fss_nil)
    (fss_one (fs_st (is := SI_check_rule) 1 S_check_rule.nd ST_check_rule (fe_vr (is := VI_check_rule) 2 V_check_rule))))))))))
def N_Orders_set_rule : List Str := ["self", "kind", "rows"]
theorem S_Orders_set_rule : FnScope N_Orders_set_rule ["self", "kind", "rows"] (defScope (inClass (top 25) 4)) := ⟨rfl, rfl, rfl, by decide +kernel, rfl, by decide +kernel, by decide +kernel⟩
def VI_Orders_set_rule : List Nat := [0, 1, 2]
theorem V_Orders_set_rule : visI (defScope (inClass (top 25) 4)) N_Orders_set_rule VI_Orders_set_rule = true := by decide +kernel
def SI_Orders_set_rule : List Nat := []
theorem ST_Orders_set_rule : stoI (defScope (inClass (top 25) 4)) (fun _ => true) N_Orders_set_rule SI_Orders_set_rule = true := by decide +kernel
def GL_Orders_set_rule : List Str := ["check_name", "check_rule", "tuple"]
theorem G_Orders_set_rule : glI (defScope (inClass (top 25) 4)) GL_Orders_set_rule = true := by decide +kernel
theorem f_Orders_set_rule (T : TX K mg) : FnR P w K mg base 3 (He.ma K (He.ga K "Orders") "set_rule") (spF K (tg K) m_Orders_set_rule) := by
  refine fnR (x := "set_rule") (qual := "Orders.set_rule") (scope := d_Orders_set_rule.scope) (body := d_Orders_set_rule.body) (params := d_Orders_set_rule.params) (N := N_Orders_set_rule) (ps := ["self", "kind", "rows"]) (k := 2) (mb := b_Orders_set_rule) (T.dfn (d := d_Orders_set_rule) 9 rfl) S_Orders_set_rule (fun _ _ _ _ _ _ us hl => match us, hl with | [_, _, _], _ => rfl) (fun cdv A outer s H E hr => ?_)
  exact (fss_cons (fs_expr (fe_ca (FnR.cal (f_check_name T) (hr.mono (by decide))) (glx (L := GL_Orders_set_rule) (j := 0) G_Orders_set_rule rfl) (g_check_name T) takesD (fa_cons (fe_vr (is := VI_Orders_set_rule) 1 V_Orders_set_rule) fa_nil)))
    (fss_cons (fs_expr (fe_ca (FnR.cal (f_check_rule T) (hr.mono (by decide))) (glx (L := GL_Orders_set_rule) (j := 1) G_Orders_set_rule rfl) (g_check_rule T) takesD (fa_cons (fe_vr (is := VI_Orders_set_rule) 2 V_Orders_set_rule) fa_nil)))
    (fss_one (fs_sub (hu_of hr) (fe_fld (f := 10) rfl inj (na_T T) (fe_vr (is := VI_Orders_set_rule) 0 V_Orders_set_rule)) (fe_vr (is := VI_Orders_set_rule) 1 V_Orders_set_rule) (fe_bt bt_tuple cf_tuple (glx (L := GL_Orders_set_rule) (j := 2) G_Orders_set_rule rfl) (g_tuple T) (fa_cons (fe_vr (is := VI_Orders_set_rule) 2 V_Orders_set_rule) fa_nil))))))
def N_is_amount : List Str := ["number"]
theorem S_is_amount : FnScope N_is_amount ["number"] (defScope (top 12)) := ⟨rfl, rfl, rfl, by decide +kernel, rfl, by decide +kernel, by decide +kernel⟩
def VI_is_amount : List Nat := [0]
theorem V_is_amount : visI (defScope (top 12)) N_is_amount VI_is_amount = true := by decide +kernel
def SI_is_amount : List Nat := []
theorem ST_is_amount : stoI (defScope (top 12)) (fun _ => true) N_is_amount SI_is_amount = true := by decide +kernel
def GL_is_amount : List Str := ["LIMIT"]
theorem G_is_amount : glI (defScope (top 12)) GL_is_amount = true := by decide +kernel
theorem f_is_amount (T : TX K mg) : FnR P w K mg base 1 (He.ga K "is_amount") (spF K (tg K) m_is_amount) := by
  refine fnR (x := "is_amount") (qual := "is_amount") (scope := d_is_amount.scope) (body := d_is_amount.body) (params := d_is_amount.params) (N := N_is_amount) (ps := ["number"]) (k := 0) (mb := b_is_amount) (T.dfn (d := d_is_amount) 10 rfl) S_is_amount (fun _ _ _ _ _ _ us hl => match us, hl with | [_], _ => rfl) (fun cdv A outer s H E hr => ?_)
  exact (fss_one (fs_ret (fe_chain of_le of_le fe_int (fe_vr (is := VI_is_amount) 0 V_is_amount) (fe_gi (glx (L := GL_is_amount) (j := 0) G_is_amount rfl) (g_LIMIT T)))))
def N_is_day : List Str := ["number"]
theorem S_is_day : FnScope N_is_day ["number"] (defScope (top 15)) := ⟨rfl, rfl, rfl, by decide +kernel, rfl, by decide +kernel, by decide +kernel⟩
def VI_is_day : List Nat := [0]
theorem V_is_day : visI (defScope (top 15)) N_is_day VI_is_day = true := by decide +kernel
def SI_is_day : List Nat := []
theorem ST_is_day : stoI (defScope (top 15)) (fun _ => true) N_is_day SI_is_day = true := by decide +kernel
def GL_is_day : List Str := ["LAST_DAY"]
theorem G_is_day : glI (defScope (top 15)) GL_is_day = true := by decide +kernel
theorem f_is_day (T : TX K mg) : FnR P w K mg base 1 (He.ga K "is_day") (spF K (tg K) m_is_day) := by
  refine fnR (x := "is_day") (qual := "is_day") (scope := d_is_day.scope) (body := d_is_day.body) (params := d_is_day.params) (N := N_is_day) (ps := ["number"]) (k := 0) (mb := b_is_day) (T.dfn (d := d_is_day) 11 rfl) S_is_day (fun _ _ _ _ _ _ us hl => match us, hl with | [_], _ => rfl) (fun cdv A outer s H E hr => ?_)
  exact (fss_one (fs_ret (fe_chain of_le of_le fe_int (fe_vr (is := VI_is_day) 0 V_is_day) (fe_gi (glx (L := GL_is_day) (j := 0) G_is_day rfl) (g_LAST_DAY T)))))
def N_Orders_check_place : List Str := ["self", "by", "kind", "amount", "key", "until"]
theorem S_Orders_check_place : FnScope N_Orders_check_place ["self", "by", "kind", "amount", "key", "until"] (defScope (inClass (top 25) 6)) := ⟨rfl, rfl, rfl, by decide +kernel, rfl, by decide +kernel, by decide +kernel⟩
def VI_Orders_check_place : List Nat := [0, 1, 2, 3, 4, 5]
theorem V_Orders_check_place : visI (defScope (inClass (top 25) 6)) N_Orders_check_place VI_Orders_check_place = true := by decide +kernel
def SI_Orders_check_place : List Nat := []
theorem ST_Orders_check_place : stoI (defScope (inClass (top 25) 6)) (fun _ => true) N_Orders_check_place SI_Orders_check_place = true := by decide +kernel
def GL_Orders_check_place : List Str := ["NotAllowed", "check_name", "is_amount", "BadValue", "len", "is_day", "BadDay"]
theorem G_Orders_check_place : glI (defScope (inClass (top 25) 6)) GL_Orders_check_place = true := by decide +kernel
theorem f_Orders_check_place (T : TX K mg) : FnR P w K mg base 3 (He.ma K (He.ga K "Orders") "check_place") (spF K (tg K) m_Orders_check_place) := by
  refine fnR (x := "check_place") (qual := "Orders.check_place") (scope := d_Orders_check_place.scope) (body := d_Orders_check_place.body) (params := d_Orders_check_place.params) (N := N_Orders_check_place) (ps := ["self", "by", "kind", "amount", "key", "until"]) (k := 2) (mb := b_Orders_check_place) (T.dfn (d := d_Orders_check_place) 12 rfl) S_Orders_check_place (fun _ _ _ _ _ _ us hl => match us, hl with | [_, _, _, _, _, _], _ => rfl) (fun cdv A outer s H E hr => ?_)
  exact (fss_cons (fs_if (ft_cmp (of_notIn (hu_of hr)) (fe_vr (is := VI_Orders_check_place) 1 V_Orders_check_place) (fe_fld (f := 9) rfl inj (na_T T) (fe_vr (is := VI_Orders_check_place) 0 V_Orders_check_place)) rfl) (fss_one (fs_ra (c := 6) rfl takesD (ec_NotAllowed T) (glx (L := GL_Orders_check_place) (j := 0) G_Orders_check_place rfl) (g_NotAllowed T))) fss_nil)
    (fss_cons (fs_expr (fe_ca (FnR.cal (f_check_name T) (hr.mono (by decide))) (glx (L := GL_Orders_check_place) (j := 1) G_Orders_check_place rfl) (g_check_name T) takesD (fa_cons (fe_vr (is := VI_Orders_check_place) 2 V_Orders_check_place) fa_nil)))
    (fss_cons (fs_if (ft_not (ft_tru (fe_ca (FnR.cal (f_is_amount T) (hr.mono (by decide))) (glx (L := GL_Orders_check_place) (j := 2) G_Orders_check_place rfl) (g_is_amount T) takesD (fa_cons (fe_vr (is := VI_Orders_check_place) 3 V_Orders_check_place) fa_nil)))) (fss_one (fs_ra (c := 1) rfl takesD (ec_BadValue T) (glx (L := GL_Orders_check_place) (j := 3) G_Orders_check_place rfl) (g_BadValue T))) fss_nil)
    (fss_cons (fs_if (ft_not (ft_chain of_le of_le fe_int (fe_bb bt_len cf_len (glx (L := GL_Orders_check_place) (j := 4) G_Orders_check_place rfl) (g_len T) (fa_cons (fe_vr (is := VI_Orders_check_place) 4 V_Orders_check_place) fa_nil)) fe_int)) (fss_one (fs_ra (c := 1) rfl takesD (ec_BadValue T) (glx (L := GL_Orders_check_place) (j := 3) G_Orders_check_place rfl) (g_BadValue T))) fss_nil)
    (fss_one (fs_if (ft_not (ft_tru (fe_ca (FnR.cal (f_is_day T) (hr.mono (by decide))) (glx (L := GL_Orders_check_place) (j := 5) G_Orders_check_place rfl) (g_is_day T) takesD (fa_cons (fe_vr (is := VI_Orders_check_place) 5 V_Orders_check_place) fa_nil)))) (fss_one (fs_ra (c := 2) rfl takesD (ec_BadDay T) (glx (L := GL_Orders_check_place) (j := 6) G_Orders_check_place rfl) (g_BadDay T))) fss_nil))))))
def N_Orders_by_key : List Str := ["self", "key"]
theorem S_Orders_by_key : FnScope N_Orders_by_key ["self", "key"] (defScope (inClass (top 25) 18)) := ⟨rfl, rfl, rfl, by decide +kernel, rfl, by decide +kernel, by decide +kernel⟩
def VI_Orders_by_key : List Nat := [0, 1]
theorem V_Orders_by_key : visI (defScope (inClass (top 25) 18)) N_Orders_by_key VI_Orders_by_key = true := by decide +kernel
def SI_Orders_by_key : List Nat := []
theorem ST_Orders_by_key : stoI (defScope (inClass (top 25) 18)) (fun _ => true) N_Orders_by_key SI_Orders_by_key = true := by decide +kernel
def GL_Orders_by_key : List Str := []
theorem G_Orders_by_key : glI (defScope (inClass (top 25) 18)) GL_Orders_by_key = true := by decide +kernel
theorem f_Orders_by_key (T : TX K mg) : FnR P w K mg base 1 (He.ma K (He.ga K "Orders") "by_key") (spF K (tg K) m_Orders_by_key) := by
  refine fnR (x := "by_key") (qual := "Orders.by_key") (scope := d_Orders_by_key.scope) (body := d_Orders_by_key.body) (params := d_Orders_by_key.params) (N := N_Orders_by_key) (ps := ["self", "key"]) (k := 0) (mb := b_Orders_by_key) (T.dfn (d := d_Orders_by_key) 13 rfl) S_Orders_by_key (fun _ _ _ _ _ _ us hl => match us, hl with | [_, _], _ => rfl) (fun cdv A outer s H E hr => ?_)
  exact (fss_one (fs_ret (fe_g1 (hu_of hr) (fe_fld (f := 12) rfl inj (na_T T) (fe_vr (is := VI_Orders_by_key) 0 V_Orders_by_key)) (fe_vr (is := VI_Orders_by_key) 1 V_Orders_by_key))))
def N_Order_init : List Str := ["self", "maker", "kind", "amount", "key", "until"]
theorem S_Order_init : FnScope N_Order_init ["self", "maker", "kind", "amount", "key", "until"] (defScope (inClass (top 24) 0)) := ⟨rfl, rfl, rfl, by decide +kernel, rfl, by decide +kernel, by decide +kernel⟩
def VI_Order_init : List Nat := [0, 1, 2, 3, 4, 5]
theorem V_Order_init : visI (defScope (inClass (top 24) 0)) N_Order_init VI_Order_init = true := by decide +kernel
def SI_Order_init : List Nat := []
theorem ST_Order_init : stoI (defScope (inClass (top 24) 0)) (fun _ => true) N_Order_init SI_Order_init = true := by decide +kernel
def GL_Order_init : List Str := []
theorem G_Order_init : glI (defScope (inClass (top 24) 0)) GL_Order_init = true := by decide +kernel
theorem f_Order_init (T : TX K mg) : FnR P w K mg base 1 (He.ma K (He.ga K "Order") "__init__") (spF K (tg K) m_Order_init) := by
  refine fnR (x := "__init__") (qual := "Order.__init__") (scope := d_Order_init.scope) (body := d_Order_init.body) (params := d_Order_init.params) (N := N_Order_init) (ps := ["self", "maker", "kind", "amount", "key", "until"]) (k := 0) (mb := b_Order_init) (T.dfn (d := d_Order_init) 14 rfl) S_Order_init (fun _ _ _ _ _ _ us hl => match us, hl with | [_, _, _, _, _, _], _ => rfl) (fun cdv A outer s H E hr => ?_)
  exact (fss_cons (fs_fld (f := 0) rfl inj (na_T T) (fe_vr (is := VI_Order_init) 0 V_Order_init) (fe_vr (is := VI_Order_init) 1 V_Order_init))
    (fss_cons (fs_fld (f := 1) rfl inj (na_T T) (fe_vr (is := VI_Order_init) 0 V_Order_init) (fe_vr (is := VI_Order_init) 2 V_Order_init))
    (fss_cons (fs_fld (f := 2) rfl inj (na_T T) (fe_vr (is := VI_Order_init) 0 V_Order_init) (fe_vr (is := VI_Order_init) 3 V_Order_init))
    (fss_cons (fs_fld (f := 3) rfl inj (na_T T) (fe_vr (is := VI_Order_init) 0 V_Order_init) (fe_vr (is := VI_Order_init) 4 V_Order_init))
    (fss_cons (fs_fld (f := 4) rfl inj (na_T T) (fe_vr (is := VI_Order_init) 0 V_Order_init) (fe_vr (is := VI_Order_init) 5 V_Order_init))
    (fss_cons (fs_fld (f := 5) rfl inj (na_T T) (fe_vr (is := VI_Order_init) 0 V_Order_init) fe_int)
    (fss_cons (fs_fld (f := 6) rfl inj (na_T T) (fe_vr (is := VI_Order_init) 0 V_Order_init) fe_non)
    (fss_cons (fs_fld (f := 7) rfl inj (na_T T) (fe_vr (is := VI_Order_init) 0 V_Order_init) (fe_lst fa_nil))
    (fss_one (fs_fld (f := 8) rfl inj (na_T T) (fe_vr (is := VI_Order_init) 0 V_Order_init) fe_str))))))))))
def N_Orders_row_for : List Str := ["self", "kind", "amount", "found", "least", "grants", "role"]
theorem S_Orders_row_for : FnScope N_Orders_row_for ["self", "kind", "amount"] (defScope (inClass (top 25) 5)) := ⟨rfl, rfl, rfl, by decide +kernel, rfl, by decide +kernel, by decide +kernel⟩
def VI_Orders_row_for : List Nat := [0, 1, 2, 3, 4, 5, 6]
theorem V_Orders_row_for : visI (defScope (inClass (top 25) 5)) N_Orders_row_for VI_Orders_row_for = true := by decide +kernel
def SI_Orders_row_for : List Nat := [3, 4, 5, 6]
theorem ST_Orders_row_for : stoI (defScope (inClass (top 25) 5)) (fun _ => true) N_Orders_row_for SI_Orders_row_for = true := by decide +kernel
def GL_Orders_row_for : List Str := []
theorem G_Orders_row_for : glI (defScope (inClass (top 25) 5)) GL_Orders_row_for = true := by decide +kernel
theorem f_Orders_row_for (T : TX K mg) : FnR P w K mg base 1 (He.ma K (He.ga K "Orders") "row_for") (spF K (tg K) m_Orders_row_for) := by
  refine fnR (x := "row_for") (qual := "Orders.row_for") (scope := d_Orders_row_for.scope) (body := d_Orders_row_for.body) (params := d_Orders_row_for.params) (N := N_Orders_row_for) (ps := ["self", "kind", "amount"]) (k := 0) (mb := b_Orders_row_for) (T.dfn (d := d_Orders_row_for) 15 rfl) S_Orders_row_for (fun _ _ _ _ _ _ us hl => match us, hl with | [_, _, _], _ => rfl) (fun cdv A outer s H E hr => ?_)
  exact (fss_cons (fs_st (is := SI_Orders_row_for) 3 S_Orders_row_for.nd ST_Orders_row_for (fe_tup (fa_cons fe_int (fa_cons fe_non fa_nil))))
    (fss_cons (fs_for passD rfl (fi_seq (fe_g2 (hu_of hr) (fe_fld (f := 10) rfl inj (na_T T) (fe_vr (is := VI_Orders_row_for) 0 V_Orders_row_for)) (fe_vr (is := VI_Orders_row_for) 1 V_Orders_row_for) (fe_tup fa_nil))) (fg_tup rfl (fgs_cons (fg_nm (is := SI_Orders_row_for) 4 S_Orders_row_for.nd ST_Orders_row_for) (fgs_cons (fg_nm (is := SI_Orders_row_for) 5 S_Orders_row_for.nd ST_Orders_row_for) (fgs_cons (fg_nm (is := SI_Orders_row_for) 6 S_Orders_row_for.nd ST_Orders_row_for) fgs_nil))))
      (fss_one (fs_if (ft_cmp of_le (fe_vr (is := VI_Orders_row_for) 4 V_Orders_row_for) (fe_vr (is := VI_Orders_row_for) 2 V_Orders_row_for) rfl) (fss_one (fs_st (is := SI_Orders_row_for) 3 S_Orders_row_for.nd ST_Orders_row_for (fe_tup (fa_cons (fe_vr (is := VI_Orders_row_for) 5 V_Orders_row_for) (fa_cons (fe_vr (is := VI_Orders_row_for) 6 V_Orders_row_for) fa_nil))))) fss_nil)))
    (fss_one (fs_ret (fe_vr (is := VI_Orders_row_for) 3 V_Orders_row_for)))))
def N_Order_require : List Str := ["self", "required", "role"]
theorem S_Order_require : FnScope N_Order_require ["self", "required", "role"] (defScope (inClass (top 24) 1)) := ⟨rfl, rfl, rfl, by decide +kernel, rfl, by decide +kernel, by decide +kernel⟩
def VI_Order_require : List Nat := [0, 1, 2]
theorem V_Order_require : visI (defScope (inClass (top 24) 1)) N_Order_require VI_Order_require = true := by decide +kernel
def SI_Order_require : List Nat := []
theorem ST_Order_require : stoI (defScope (inClass (top 24) 1)) (fun _ => true) N_Order_require SI_Order_require = true := by decide +kernel
def GL_Order_require : List Str := []
theorem G_Order_require : glI (defScope (inClass (top 24) 1)) GL_Order_require = true := by decide +kernel
theorem f_Order_require (T : TX K mg) : FnR P w K mg base 1 (He.ma K (He.ga K "Order") "require") (spF K (tg K) m_Order_require) := by
  refine fnR (x := "require") (qual := "Order.require") (scope := d_Order_require.scope) (body := d_Order_require.body) (params := d_Order_require.params) (N := N_Order_require) (ps := ["self", "required", "role"]) (k := 0) (mb := b_Order_require) (T.dfn (d := d_Order_require) 16 rfl) S_Order_require (fun _ _ _ _ _ _ us hl => match us, hl with | [_, _, _], _ => rfl) (fun cdv A outer s H E hr => ?_)
  exact (fss_one (fs_if (ft_cmp of_gt (fe_vr (is := VI_Order_require) 1 V_Order_require) fe_int rfl) (fss_cons (fs_fld (f := 5) rfl inj (na_T T) (fe_vr (is := VI_Order_require) 0 V_Order_require) (fe_vr (is := VI_Order_require) 1 V_Order_require))
    (fss_cons (fs_fld (f := 6) rfl inj (na_T T) (fe_vr (is := VI_Order_require) 0 V_Order_require) (fe_vr (is := VI_Order_require) 2 V_Order_require))
    (fss_one (fs_fld (f := 8) rfl inj (na_T T) (fe_vr (is := VI_Order_require) 0 V_Order_require) fe_str)))) fss_nil))
def N_Orders_place : List Str := ["self", "by", "kind", "amount", "key", "until", "number", "earlier", "placed", "required", "role"]
theorem S_Orders_place : FnScope N_Orders_place ["self", "by", "kind", "amount", "key", "until"] (defScope (inClass (top 25) 7)) := ⟨rfl, rfl, rfl, by decide +kernel, rfl, by decide +kernel, by decide +kernel⟩
def VI_Orders_place : List Nat := [0, 1, 2, 3, 4, 5, 6, 7, 8, 9, 10]
theorem V_Orders_place : visI (defScope (inClass (top 25) 7)) N_Orders_place VI_Orders_place = true := by decide +kernel
def SI_Orders_place : List Nat := [6, 7, 8, 9, 10]
theorem ST_Orders_place : stoI (defScope (inClass (top 25) 7)) (fun _ => true) N_Orders_place SI_Orders_place = true := by decide +kernel
def GL_Orders_place : List Str := ["Refused", "len", "MOST_ORDERS", "Full", "Order"]
theorem G_Orders_place : glI (defScope (inClass (top 25) 7)) GL_Orders_place = true := by decide +kernel
theorem f_Orders_place (T : TX K mg) : FnR P w K mg base 4 (He.ma K (He.ga K "Orders") "place") (spF K (tg K) m_Orders_place) := by
  refine fnR (x := "place") (qual := "Orders.place") (scope := d_Orders_place.scope) (body := d_Orders_place.body) (params := d_Orders_place.params) (N := N_Orders_place) (ps := ["self", "by", "kind", "amount", "key", "until"]) (k := 3) (mb := b_Orders_place) (T.dfn (d := d_Orders_place) 17 rfl) S_Orders_place (fun _ _ _ _ _ _ us hl => match us, hl with | [_, _, _, _, _, _], _ => rfl) (fun cdv A outer s H E hr => ?_)
  exact (fss_cons (fs_expr (fe_meth (c := 9) (bad := none) (FnR.cal (f_Orders_check_place T) (hr.mono (by decide))) (cl_Orders T) (mt_Orders_check_place T) inj (bad_check_place) takesD (fe_vr (is := VI_Orders_place) 0 V_Orders_place) (fa_cons (fe_vr (is := VI_Orders_place) 1 V_Orders_place) (fa_cons (fe_vr (is := VI_Orders_place) 2 V_Orders_place) (fa_cons (fe_vr (is := VI_Orders_place) 3 V_Orders_place) (fa_cons (fe_vr (is := VI_Orders_place) 4 V_Orders_place) (fa_cons (fe_vr (is := VI_Orders_place) 5 V_Orders_place) fa_nil)))))))
    (fss_cons (fs_st (is := SI_Orders_place) 6 S_Orders_place.nd ST_Orders_place (fe_meth (c := 9) (bad := none) (FnR.cal (f_Orders_by_key T) (hr.mono (by decide))) (cl_Orders T) (mt_Orders_by_key T) inj (bad_by_key) takesD (fe_vr (is := VI_Orders_place) 0 V_Orders_place) (fa_cons (fe_vr (is := VI_Orders_place) 4 V_Orders_place) fa_nil)))
    (fss_cons (fs_if (ft_cmp of_isNot (fe_vr (is := VI_Orders_place) 6 V_Orders_place) fe_non rfl) (fss_cons (fs_st (is := SI_Orders_place) 7 S_Orders_place.nd ST_Orders_place (fe_ix (hu_of hr) (fe_fld (f := 11) rfl inj (na_T T) (fe_vr (is := VI_Orders_place) 0 V_Orders_place)) (fe_op of_sub (fe_vr (is := VI_Orders_place) 6 V_Orders_place) fe_int)))
    (fss_cons (fs_if (ft_cmp (of_ne (hr.units)) (fe_tup (fa_cons (fe_fld (f := 0) rfl inj (na_T T) (fe_vr (is := VI_Orders_place) 7 V_Orders_place)) (fa_cons (fe_fld (f := 1) rfl inj (na_T T) (fe_vr (is := VI_Orders_place) 7 V_Orders_place)) (fa_cons (fe_fld (f := 2) rfl inj (na_T T) (fe_vr (is := VI_Orders_place) 7 V_Orders_place)) fa_nil)))) (fe_tup (fa_cons (fe_vr (is := VI_Orders_place) 1 V_Orders_place) (fa_cons (fe_vr (is := VI_Orders_place) 2 V_Orders_place) (fa_cons (fe_vr (is := VI_Orders_place) 3 V_Orders_place) fa_nil)))) rfl) (fss_one (fs_ra (c := 4) rfl takesD (ec_Refused T) (glx (L := GL_Orders_place) (j := 0) G_Orders_place rfl) (g_Refused T))) fss_nil)
    (fss_one (fs_ret (fe_vr (is := VI_Orders_place) 6 V_Orders_place))))) fss_nil)
    (fss_cons (fs_if (ft_cmp of_ge (fe_bb bt_len cf_len (glx (L := GL_Orders_place) (j := 1) G_Orders_place rfl) (g_len T) (fa_cons (fe_fld (f := 11) rfl inj (na_T T) (fe_vr (is := VI_Orders_place) 0 V_Orders_place)) fa_nil)) (fe_gi (glx (L := GL_Orders_place) (j := 2) G_Orders_place rfl) (g_MOST_ORDERS T)) rfl) (fss_one (fs_ra (c := 5) rfl takesD (ec_Full T) (glx (L := GL_Orders_place) (j := 3) G_Orders_place rfl) (g_Full T))) fss_nil)
    (fss_cons (fs_st (is := SI_Orders_place) 8 S_Orders_place.nd ST_Orders_place (fe_mk (c := 8) (mk_Order T) (f_Order_init T) (hr.mono (by decide)) takesD (glx (L := GL_Orders_place) (j := 4) G_Orders_place rfl) (g_Order T) (fa_cons (fe_vr (is := VI_Orders_place) 1 V_Orders_place) (fa_cons (fe_vr (is := VI_Orders_place) 2 V_Orders_place) (fa_cons (fe_vr (is := VI_Orders_place) 3 V_Orders_place) (fa_cons (fe_vr (is := VI_Orders_place) 4 V_Orders_place) (fa_cons (fe_vr (is := VI_Orders_place) 5 V_Orders_place) fa_nil)))))))
    (fss_cons (fs_asg (fe_meth (c := 9) (bad := none) (FnR.cal (f_Orders_row_for T) (hr.mono (by decide))) (cl_Orders T) (mt_Orders_row_for T) inj (bad_row_for) takesD (fe_vr (is := VI_Orders_place) 0 V_Orders_place) (fa_cons (fe_vr (is := VI_Orders_place) 2 V_Orders_place) (fa_cons (fe_vr (is := VI_Orders_place) 3 V_Orders_place) fa_nil))) (fg_tup rfl (fgs_cons (fg_nm (is := SI_Orders_place) 9 S_Orders_place.nd ST_Orders_place) (fgs_cons (fg_nm (is := SI_Orders_place) 10 S_Orders_place.nd ST_Orders_place) fgs_nil))))
    (fss_cons (fs_expr (fe_meth (c := 8) (bad := none) (FnR.cal (f_Order_require T) (hr.mono (by decide))) (cl_Order T) (mt_Order_require T) inj (bad_require) takesD (fe_vr (is := VI_Orders_place) 8 V_Orders_place) (fa_cons (fe_vr (is := VI_Orders_place) 9 V_Orders_place) (fa_cons (fe_vr (is := VI_Orders_place) 10 V_Orders_place) fa_nil))))
    (fss_cons (fs_expr (fe_append (fe_fld (f := 11) rfl inj (na_T T) (fe_vr (is := VI_Orders_place) 0 V_Orders_place)) (fa_cons (fe_vr (is := VI_Orders_place) 8 V_Orders_place) fa_nil)))
    (fss_cons (fs_sub (hu_of hr) (fe_fld (f := 12) rfl inj (na_T T) (fe_vr (is := VI_Orders_place) 0 V_Orders_place)) (fe_vr (is := VI_Orders_place) 4 V_Orders_place) (fe_bb bt_len cf_len (glx (L := GL_Orders_place) (j := 1) G_Orders_place rfl) (g_len T) (fa_cons (fe_fld (f := 11) rfl inj (na_T T) (fe_vr (is := VI_Orders_place) 0 V_Orders_place)) fa_nil)))
    (fss_one (fs_ret (fe_bb bt_len cf_len (glx (L := GL_Orders_place) (j := 1) G_Orders_place rfl) (g_len T) (fa_cons (fe_fld (f := 11) rfl inj (na_T T) (fe_vr (is := VI_Orders_place) 0 V_Orders_place)) fa_nil)))))))))))))
def N_law_same : List Str := ["_law_actual", "_law_due_here", "_law_k"]
theorem S_law_same : FnScope N_law_same ["_law_actual", "_law_due_here"] (defScope (top 31)) := ⟨rfl, rfl, rfl, by decide +kernel, rfl, by decide +kernel, by decide +kernel⟩
def VI_law_same : List Nat := [0, 1, 2]
theorem V_law_same : visI (defScope (top 31)) N_law_same VI_law_same = true := by decide +kernel
def SI_law_same : List Nat := [2]
theorem ST_law_same : stoI (defScope (top 31)) (fun _ => true) N_law_same SI_law_same = true := by decide +kernel
def GL_law_same : List Str := ["isinstance", "bool", "int", "str", "list", "tuple", "len", "_law_same", "range"]
theorem G_law_same : glI (defScope (top 31)) GL_law_same = true := by decide +kernel
theorem f_law_same (T : TX K mg) : ∀ n : Nat, FnR P w K mg base (0 + n + 1) (He.ga K "_law_same") (spF K (tg K) (m_law_same n))
  | 0 => fnR (x := "_law_same") (qual := "_law_same") (scope := d_law_same.scope) (body := d_law_same.body) (params := d_law_same.params) (N := N_law_same) (ps := ["_law_actual", "_law_due_here"]) (k := 0) (mb := sNever) (T.dfn (d := d_law_same) 18 rfl) S_law_same (fun _ _ _ _ _ _ us hl => match us, hl with | [_, _], _ => rfl) (fun cdv A outer s H E hr => fss_never)
  | n + 1 => by
    have ih := f_law_same T n
    refine fnR (x := "_law_same") (qual := "_law_same") (scope := d_law_same.scope) (body := d_law_same.body) (params := d_law_same.params) (N := N_law_same) (ps := ["_law_actual", "_law_due_here"]) (k := 0 + n + 1) (mb := b_law_same (m_law_same n)) (T.dfn (d := d_law_same) 18 rfl) S_law_same (fun _ _ _ _ _ _ us hl => match us, hl with | [_, _], _ => rfl) (fun cdv A outer s H E hr => ?_)
    exact (fss_cons (fs_if (ft_cmp of_is (fe_vr (is := VI_law_same) 1 V_law_same) fe_non rfl) (fss_one (fs_ret (fe_cmp of_is (fe_vr (is := VI_law_same) 0 V_law_same) fe_non rfl))) fss_nil)
    (fss_cons (fs_if (ft_tru (fe_is 1 bt_bool (glx (L := GL_law_same) (j := 0) G_law_same rfl) (g_isinstance T) (glx (L := GL_law_same) (j := 1) G_law_same rfl) (g_bool T) (fe_vr (is := VI_law_same) 1 V_law_same))) (fss_one (fs_ret (fe_and (fe_is 1 bt_bool (glx (L := GL_law_same) (j := 0) G_law_same rfl) (g_isinstance T) (glx (L := GL_law_same) (j := 1) G_law_same rfl) (g_bool T) (fe_vr (is := VI_law_same) 0 V_law_same)) (fe_one (fe_cmp (of_eq (hr.units)) (fe_vr (is := VI_law_same) 0 V_law_same) (fe_vr (is := VI_law_same) 1 V_law_same) rfl))))) fss_nil)
    (fss_cons (fs_if (ft_tru (fe_is 2 bt_int (glx (L := GL_law_same) (j := 0) G_law_same rfl) (g_isinstance T) (glx (L := GL_law_same) (j := 2) G_law_same rfl) (g_int T) (fe_vr (is := VI_law_same) 1 V_law_same))) (fss_one (fs_ret (fe_and (fe_is 2 bt_int (glx (L := GL_law_same) (j := 0) G_law_same rfl) (g_isinstance T) (glx (L := GL_law_same) (j := 2) G_law_same rfl) (g_int T) (fe_vr (is := VI_law_same) 0 V_law_same)) (fe_and (fe_not (fe_is 1 bt_bool (glx (L := GL_law_same) (j := 0) G_law_same rfl) (g_isinstance T) (glx (L := GL_law_same) (j := 1) G_law_same rfl) (g_bool T) (fe_vr (is := VI_law_same) 0 V_law_same))) (fe_one (fe_cmp (of_eq (hr.units)) (fe_vr (is := VI_law_same) 0 V_law_same) (fe_vr (is := VI_law_same) 1 V_law_same) rfl)))))) fss_nil)
    (fss_cons (fs_if (ft_tru (fe_is 3 bt_str (glx (L := GL_law_same) (j := 0) G_law_same rfl) (g_isinstance T) (glx (L := GL_law_same) (j := 3) G_law_same rfl) (g_str T) (fe_vr (is := VI_law_same) 1 V_law_same))) (fss_one (fs_ret (fe_and (fe_is 3 bt_str (glx (L := GL_law_same) (j := 0) G_law_same rfl) (g_isinstance T) (glx (L := GL_law_same) (j := 3) G_law_same rfl) (g_str T) (fe_vr (is := VI_law_same) 0 V_law_same)) (fe_one (fe_cmp (of_eq (hr.units)) (fe_vr (is := VI_law_same) 0 V_law_same) (fe_vr (is := VI_law_same) 1 V_law_same) rfl))))) fss_nil)
    (fss_cons (fs_if (PW.pt (fw_or (ft_cmp (of_ne (hr.units)) (fe_is 5 bt_list (glx (L := GL_law_same) (j := 0) G_law_same rfl) (g_isinstance T) (glx (L := GL_law_same) (j := 4) G_law_same rfl) (g_list T) (fe_vr (is := VI_law_same) 1 V_law_same)) (fe_is 5 bt_list (glx (L := GL_law_same) (j := 0) G_law_same rfl) (g_isinstance T) (glx (L := GL_law_same) (j := 4) G_law_same rfl) (g_list T) (fe_vr (is := VI_law_same) 0 V_law_same)) rfl) (fw_or1 (ft_cmp (of_ne (hr.units)) (fe_is 4 bt_tuple (glx (L := GL_law_same) (j := 0) G_law_same rfl) (g_isinstance T) (glx (L := GL_law_same) (j := 5) G_law_same rfl) (g_tuple T) (fe_vr (is := VI_law_same) 1 V_law_same)) (fe_is 4 bt_tuple (glx (L := GL_law_same) (j := 0) G_law_same rfl) (g_isinstance T) (glx (L := GL_law_same) (j := 5) G_law_same rfl) (g_tuple T) (fe_vr (is := VI_law_same) 0 V_law_same)) rfl)))) (fss_one (fs_ret fe_bl)) fss_nil)
    (fss_cons (fs_if (ft_cmp (of_ne (hr.units)) (fe_bb bt_len cf_len (glx (L := GL_law_same) (j := 6) G_law_same rfl) (g_len T) (fa_cons (fe_vr (is := VI_law_same) 0 V_law_same) fa_nil)) (fe_bb bt_len cf_len (glx (L := GL_law_same) (j := 6) G_law_same rfl) (g_len T) (fa_cons (fe_vr (is := VI_law_same) 1 V_law_same) fa_nil)) rfl) (fss_one (fs_ret fe_bl)) fss_nil)
    (fss_cons (fs_for passD rfl (fi_rng1 (glx (L := GL_law_same) (j := 8) G_law_same rfl).gl (g_range T) (fa_cons (fe_bb bt_len cf_len (glx (L := GL_law_same) (j := 6) G_law_same rfl) (g_len T) (fa_cons (fe_vr (is := VI_law_same) 1 V_law_same) fa_nil)) fa_nil)) (fg_nm (is := SI_law_same) 2 S_law_same.nd ST_law_same)
      (fss_one (fs_if (ft_not (ft_tru (fe_ca (ih.cal (hr.mono (by omega))) (glx (L := GL_law_same) (j := 7) G_law_same rfl) (g__law_same T) takesD (fa_cons (fe_ix (hu_of hr) (fe_vr (is := VI_law_same) 0 V_law_same) (fe_vr (is := VI_law_same) 2 V_law_same)) (fa_cons (fe_ix (hu_of hr) (fe_vr (is := VI_law_same) 1 V_law_same) (fe_vr (is := VI_law_same) 2 V_law_same)) fa_nil))))) (fss_one (fs_ret fe_bl)) fss_nil)))
    (fss_one (fs_ret fe_bl)))))))))
def N_law_placed : List Str := ["_law_orders", "_law_dues", "_law_row", "_law_users_here", "_law_rule", "_law_by", "_law_amount", "_law_until", "_law_key", "_law_number", "_law_role", "_law_state"]
theorem S_law_placed : FnScope N_law_placed ["_law_orders", "_law_dues", "_law_row", "_law_users_here", "_law_rule"] (defScope (top 36)) := ⟨rfl, rfl, rfl, by decide +kernel, rfl, by decide +kernel, by decide +kernel⟩
def VI_law_placed : List Nat := [0, 1, 2, 3, 4, 5, 6, 7, 8, 9, 10, 11]
theorem V_law_placed : visI (defScope (top 36)) N_law_placed VI_law_placed = true := by decide +kernel
def SI_law_placed : List Nat := [5, 6, 7, 8, 9, 10, 11]
theorem ST_law_placed : stoI (defScope (top 36)) (fun _ => true) N_law_placed SI_law_placed = true := by decide +kernel
def GL_law_placed : List Str := ["int", "len", "str", "_law_same"]
theorem G_law_placed : glI (defScope (top 36)) GL_law_placed = true := by decide +kernel
theorem f_law_placed (T : TX K mg) : FnR P w K mg base 10 (He.ga K "_law_placed") (spF K (tg K) m_law_placed) := by
  refine fnR (x := "_law_placed") (qual := "_law_placed") (scope := d_law_placed.scope) (body := d_law_placed.body) (params := d_law_placed.params) (N := N_law_placed) (ps := ["_law_orders", "_law_dues", "_law_row", "_law_users_here", "_law_rule"]) (k := 9) (mb := b_law_placed) (T.dfn (d := d_law_placed) 19 rfl) S_law_placed (fun _ _ _ _ _ _ us hl => match us, hl with | [_, _, _, _, _], _ => rfl) (fun cdv A outer s H E hr => ?_)
  exact (fss_cons (fs_st (is := SI_law_placed) 5 S_law_placed.nd ST_law_placed (fe_ix (hu_of hr) (fe_vr (is := VI_law_placed) 3 V_law_placed) (fe_op of_mod (fe_bt bt_int cf_int (glx (L := GL_law_placed) (j := 0) G_law_placed rfl) (g_int T) (fa_cons (fe_ix (hu_of hr) (fe_vr (is := VI_law_placed) 2 V_law_placed) fe_int) fa_nil)) fe_int)))
    (fss_cons (fs_st (is := SI_law_placed) 6 S_law_placed.nd ST_law_placed (fe_op of_add fe_int (fe_op of_mod (fe_bt bt_int cf_int (glx (L := GL_law_placed) (j := 0) G_law_placed rfl) (g_int T) (fa_cons (fe_ix (hu_of hr) (fe_vr (is := VI_law_placed) 2 V_law_placed) fe_int) fa_nil)) fe_int)))
    (fss_cons (fs_st (is := SI_law_placed) 7 S_law_placed.nd ST_law_placed (fe_op of_mod (fe_bt bt_int cf_int (glx (L := GL_law_placed) (j := 0) G_law_placed rfl) (g_int T) (fa_cons (fe_ix (hu_of hr) (fe_vr (is := VI_law_placed) 2 V_law_placed) fe_int) fa_nil)) fe_int))
    (fss_cons (fs_st (is := SI_law_placed) 8 S_law_placed.nd ST_law_placed (fe_op of_add fe_str (fe_bt bt_str cf_str (glx (L := GL_law_placed) (j := 2) G_law_placed rfl) (g_str T) (fa_cons (fe_bb bt_len cf_len (glx (L := GL_law_placed) (j := 1) G_law_placed rfl) (g_len T) (fa_cons (fe_vr (is := VI_law_placed) 1 V_law_placed) fa_nil)) fa_nil))))
    (fss_cons (fs_st (is := SI_law_placed) 9 S_law_placed.nd ST_law_placed (fe_meth (c := 9) (bad := none) (FnR.cal (f_Orders_place T) (hr.mono (by decide))) (cl_Orders T) (mt_Orders_place T) inj (bad_place) takesD (fe_vr (is := VI_law_placed) 0 V_law_placed) (fa_cons (fe_vr (is := VI_law_placed) 5 V_law_placed) (fa_cons fe_str (fa_cons (fe_vr (is := VI_law_placed) 6 V_law_placed) (fa_cons (fe_vr (is := VI_law_placed) 8 V_law_placed) (fa_cons (fe_vr (is := VI_law_placed) 7 V_law_placed) fa_nil)))))))
    (fss_cons (fs_st (is := SI_law_placed) 10 S_law_placed.nd ST_law_placed (fe_ix (hu_of hr) (fe_vr (is := VI_law_placed) 4 V_law_placed) fe_int))
    (fss_cons (fs_st (is := SI_law_placed) 11 S_law_placed.nd ST_law_placed fe_str)
    (fss_cons (fs_if (ft_cmp (of_eq (hr.units)) (fe_ix (hu_of hr) (fe_vr (is := VI_law_placed) 4 V_law_placed) fe_int) fe_int rfl) (fss_cons (fs_st (is := SI_law_placed) 10 S_law_placed.nd ST_law_placed fe_non)
    (fss_one (fs_st (is := SI_law_placed) 11 S_law_placed.nd ST_law_placed fe_str))) fss_nil)
    (fss_cons (fs_expr (fe_append (fe_vr (is := VI_law_placed) 1 V_law_placed) (fa_cons (fe_lst (fa_cons (fe_vr (is := VI_law_placed) 5 V_law_placed) (fa_cons fe_str (fa_cons (fe_vr (is := VI_law_placed) 6 V_law_placed) (fa_cons (fe_vr (is := VI_law_placed) 8 V_law_placed) (fa_cons (fe_vr (is := VI_law_placed) 7 V_law_placed) (fa_cons (fe_ix (hu_of hr) (fe_vr (is := VI_law_placed) 4 V_law_placed) fe_int) (fa_cons (fe_vr (is := VI_law_placed) 10 V_law_placed) (fa_cons (fe_lst fa_nil) (fa_cons (fe_vr (is := VI_law_placed) 11 V_law_placed) fa_nil)))))))))) fa_nil)))
    (fss_one (fs_ret (fe_ca (FnR.cal (f_law_same T 8) (hr.mono (by decide))) (glx (L := GL_law_placed) (j := 3) G_law_placed rfl) (g__law_same T) takesD (fa_cons (fe_vr (is := VI_law_placed) 9 V_law_placed) (fa_cons (fe_bb bt_len cf_len (glx (L := GL_law_placed) (j := 1) G_law_placed rfl) (g_len T) (fa_cons (fe_vr (is := VI_law_placed) 1 V_law_placed) fa_nil)) fa_nil))))))))))))))
def N_law_decides : List Str := ["_law_order", "_law_what", "_law_by", "_law_roles", "_law_ranks"]
theorem S_law_decides : FnScope N_law_decides ["_law_order", "_law_what", "_law_by", "_law_roles"] (defScope (top 34)) := ⟨rfl, rfl, rfl, by decide +kernel, rfl, by decide +kernel, by decide +kernel⟩
def VI_law_decides : List Nat := [0, 1, 2, 3, 4]
theorem V_law_decides : visI (defScope (top 34)) N_law_decides VI_law_decides = true := by decide +kernel
def SI_law_decides : List Nat := [4]
theorem ST_law_decides : stoI (defScope (top 34)) (fun _ => true) N_law_decides SI_law_decides = true := by decide +kernel
def GL_law_decides : List Str := ["len"]
theorem G_law_decides : glI (defScope (top 34)) GL_law_decides = true := by decide +kernel
theorem f_law_decides (T : TX K mg) : FnR P w K mg base 1 (He.ga K "_law_decides") (spF K (tg K) m_law_decides) := by
  refine fnR (x := "_law_decides") (qual := "_law_decides") (scope := d_law_decides.scope) (body := d_law_decides.body) (params := d_law_decides.params) (N := N_law_decides) (ps := ["_law_order", "_law_what", "_law_by", "_law_roles"]) (k := 0) (mb := b_law_decides) (T.dfn (d := d_law_decides) 20 rfl) S_law_decides (fun _ _ _ _ _ _ us hl => match us, hl with | [_, _, _, _], _ => rfl) (fun cdv A outer s H E hr => ?_)
  exact (fss_cons (fs_st (is := SI_law_decides) 4 S_law_decides.nd ST_law_decides (fe_lst (fa_cons fe_str (fa_cons fe_str (fa_cons fe_str fa_nil)))))
    (fss_cons (fs_if (ft_cmp (of_ne (hr.units)) (fe_ix (hu_of hr) (fe_vr (is := VI_law_decides) 0 V_law_decides) fe_int) fe_str rfl) (fss_one (fs_ret fe_str)) fss_nil)
    (fss_cons (fs_if (PW.pt (fw_or (ft_cmp (of_eq (hr.units)) (fe_vr (is := VI_law_decides) 2 V_law_decides) (fe_ix (hu_of hr) (fe_vr (is := VI_law_decides) 0 V_law_decides) fe_int) rfl) (fw_or1 (ft_cmp of_lt (fe_index (fe_vr (is := VI_law_decides) 4 V_law_decides) (fa_cons (fe_ix (hu_of hr) (fe_vr (is := VI_law_decides) 3 V_law_decides) (fe_vr (is := VI_law_decides) 2 V_law_decides)) fa_nil)) (fe_index (fe_vr (is := VI_law_decides) 4 V_law_decides) (fa_cons (fe_ix (hu_of hr) (fe_vr (is := VI_law_decides) 0 V_law_decides) fe_int) fa_nil)) rfl)))) (fss_one (fs_ret fe_str)) fss_nil)
    (fss_cons (fs_if (ft_cmp (of_eq (hr.units)) (fe_vr (is := VI_law_decides) 1 V_law_decides) fe_str rfl) (fss_cons (fs_sub (hu_of hr) (fe_vr (is := VI_law_decides) 0 V_law_decides) fe_int fe_str)
    (fss_one (fs_ret (fe_ix (hu_of hr) (fe_vr (is := VI_law_decides) 0 V_law_decides) fe_int)))) fss_nil)
    (fss_cons (fs_if (ft_cmp (of_in (hu_of hr)) (fe_vr (is := VI_law_decides) 2 V_law_decides) (fe_ix (hu_of hr) (fe_vr (is := VI_law_decides) 0 V_law_decides) fe_int) rfl) (fss_one (fs_ret fe_str)) fss_nil)
    (fss_cons (fs_sub (hu_of hr) (fe_vr (is := VI_law_decides) 0 V_law_decides) fe_int (fe_op of_add (fe_ix (hu_of hr) (fe_vr (is := VI_law_decides) 0 V_law_decides) fe_int) (fe_lst (fa_cons (fe_vr (is := VI_law_decides) 2 V_law_decides) fa_nil))))
    (fss_cons (fs_if (ft_cmp (of_eq (hr.units)) (fe_bb bt_len cf_len (glx (L := GL_law_decides) (j := 0) G_law_decides rfl) (g_len T) (fa_cons (fe_ix (hu_of hr) (fe_vr (is := VI_law_decides) 0 V_law_decides) fe_int) fa_nil)) (fe_ix (hu_of hr) (fe_vr (is := VI_law_decides) 0 V_law_decides) fe_int) rfl) (fss_one (fs_sub (hu_of hr) (fe_vr (is := VI_law_decides) 0 V_law_decides) fe_int fe_str)) fss_nil)
    (fss_one (fs_ret (fe_ix (hu_of hr) (fe_vr (is := VI_law_decides) 0 V_law_decides) fe_int))))))))))
def N_law_due : List Str := ["_law_dues", "_law_what", "_law_by", "_law_number", "_law_day", "_law_roles", "_law_found", "_law_k", "_law_order"]
theorem S_law_due : FnScope N_law_due ["_law_dues", "_law_what", "_law_by", "_law_number", "_law_day", "_law_roles"] (defScope (top 35)) := ⟨rfl, rfl, rfl, by decide +kernel, rfl, by decide +kernel, by decide +kernel⟩
def VI_law_due : List Nat := [0, 1, 2, 3, 4, 5, 6, 7, 8]
theorem V_law_due : visI (defScope (top 35)) N_law_due VI_law_due = true := by decide +kernel
def SI_law_due : List Nat := [6, 7, 8]
theorem ST_law_due : stoI (defScope (top 35)) (fun _ => true) N_law_due SI_law_due = true := by decide +kernel
def GL_law_due : List Str := ["len", "range", "_law_decides"]
theorem G_law_due : glI (defScope (top 35)) GL_law_due = true := by decide +kernel
theorem f_law_due (T : TX K mg) : FnR P w K mg base 2 (He.ga K "_law_due") (spF K (tg K) m_law_due) := by
  refine fnR (x := "_law_due") (qual := "_law_due") (scope := d_law_due.scope) (body := d_law_due.body) (params := d_law_due.params) (N := N_law_due) (ps := ["_law_dues", "_law_what", "_law_by", "_law_number", "_law_day", "_law_roles"]) (k := 1) (mb := b_law_due) (T.dfn (d := d_law_due) 21 rfl) S_law_due (fun _ _ _ _ _ _ us hl => match us, hl with | [_, _, _, _, _, _], _ => rfl) (fun cdv A outer s H E hr => ?_)
  exact (fss_cons (fs_if (ft_cmp (of_eq (hr.units)) (fe_vr (is := VI_law_due) 1 V_law_due) fe_str rfl) (fss_cons (fs_st (is := SI_law_due) 6 S_law_due.nd ST_law_due (fe_lst fa_nil))
    (fss_cons (fs_for passD rfl (fi_rng1 (glx (L := GL_law_due) (j := 1) G_law_due rfl).gl (g_range T) (fa_cons (fe_bb bt_len cf_len (glx (L := GL_law_due) (j := 0) G_law_due rfl) (g_len T) (fa_cons (fe_vr (is := VI_law_due) 0 V_law_due) fa_nil)) fa_nil)) (fg_nm (is := SI_law_due) 7 S_law_due.nd ST_law_due)
      (fss_one (fs_if (PW.pt (fw_and (ft_cmp (of_in (hu_of hr)) (fe_ix (hu_of hr) (fe_ix (hu_of hr) (fe_vr (is := VI_law_due) 0 V_law_due) (fe_vr (is := VI_law_due) 7 V_law_due)) fe_int) (fe_tup (fa_cons fe_str (fa_cons fe_str fa_nil))) rfl) (fw_and1 (ft_cmp of_lt (fe_ix (hu_of hr) (fe_ix (hu_of hr) (fe_vr (is := VI_law_due) 0 V_law_due) (fe_vr (is := VI_law_due) 7 V_law_due)) fe_int) (fe_vr (is := VI_law_due) 4 V_law_due) rfl)))) (fss_cons (fs_sub (hu_of hr) (fe_ix (hu_of hr) (fe_vr (is := VI_law_due) 0 V_law_due) (fe_vr (is := VI_law_due) 7 V_law_due)) fe_int fe_str)
    (fss_one (fs_expr (fe_append (fe_vr (is := VI_law_due) 6 V_law_due) (fa_cons (fe_op of_add (fe_vr (is := VI_law_due) 7 V_law_due) fe_int) fa_nil))))) fss_nil)))
    (fss_one (fs_ret (fe_vr (is := VI_law_due) 6 V_law_due))))) fss_nil)
    (fss_cons (fs_if (PW.pt (fw_and (ft_cmp (of_in (hu_of hr)) (fe_vr (is := VI_law_due) 1 V_law_due) (fe_tup (fa_cons fe_str (fa_cons fe_str fa_nil))) rfl) (fw_and1 (ft_cmp (of_notIn (hu_of hr)) (fe_vr (is := VI_law_due) 2 V_law_due) (fe_vr (is := VI_law_due) 5 V_law_due) rfl)))) (fss_one (fs_ret fe_str)) fss_nil)
    (fss_cons (fs_if (ft_not (ft_chain of_le of_le fe_int (fe_vr (is := VI_law_due) 3 V_law_due) (fe_bb bt_len cf_len (glx (L := GL_law_due) (j := 0) G_law_due rfl) (g_len T) (fa_cons (fe_vr (is := VI_law_due) 0 V_law_due) fa_nil)))) (fss_one (fs_ret fe_str)) fss_nil)
    (fss_cons (fs_st (is := SI_law_due) 8 S_law_due.nd ST_law_due (fe_ix (hu_of hr) (fe_vr (is := VI_law_due) 0 V_law_due) (fe_op of_sub (fe_vr (is := VI_law_due) 3 V_law_due) fe_int)))
    (fss_cons (fs_if (ft_cmp (of_in (hu_of hr)) (fe_vr (is := VI_law_due) 1 V_law_due) (fe_tup (fa_cons fe_str (fa_cons fe_str fa_nil))) rfl) (fss_one (fs_ret (fe_ca (FnR.cal (f_law_decides T) (hr.mono (by decide))) (glx (L := GL_law_due) (j := 2) G_law_due rfl) (g__law_decides T) takesD (fa_cons (fe_vr (is := VI_law_due) 8 V_law_due) (fa_cons (fe_vr (is := VI_law_due) 1 V_law_due) (fa_cons (fe_vr (is := VI_law_due) 2 V_law_due) (fa_cons (fe_vr (is := VI_law_due) 5 V_law_due) fa_nil))))))) fss_nil)
    (fss_cons (fs_if (PW.pt (fw_and (ft_cmp (of_eq (hr.units)) (fe_vr (is := VI_law_due) 1 V_law_due) fe_str rfl) (fw_and1 (ft_cmp (of_ne (hr.units)) (fe_vr (is := VI_law_due) 2 V_law_due) (fe_ix (hu_of hr) (fe_vr (is := VI_law_due) 8 V_law_due) fe_int) rfl)))) (fss_one (fs_ret fe_str)) fss_nil)
    (fss_cons (fs_if (PW.pt (fw_and (ft_cmp (of_ne (hr.units)) (fe_ix (hu_of hr) (fe_vr (is := VI_law_due) 8 V_law_due) fe_int) fe_str rfl) (fw_and1 (PW.pt (fw_or (ft_cmp (of_ne (hr.units)) (fe_vr (is := VI_law_due) 1 V_law_due) fe_str rfl) (fw_or1 (ft_cmp (of_ne (hr.units)) (fe_ix (hu_of hr) (fe_vr (is := VI_law_due) 8 V_law_due) fe_int) fe_str rfl))))))) (fss_one (fs_ret fe_str)) fss_nil)
    (fss_cons (fs_sub (hu_of hr) (fe_vr (is := VI_law_due) 8 V_law_due) fe_int (fe_ix (hu_of hr) (fe_dctN (fps_cons fe_str fe_str (fps_cons fe_str fe_str (fps_cons fe_str fe_str fps_nil)))) (fe_vr (is := VI_law_due) 1 V_law_due)))
    (fss_one (fs_ret (fe_ix (hu_of hr) (fe_vr (is := VI_law_due) 8 V_law_due) fe_int)))))))))))
def N_Orders_at_number : List Str := ["self", "number"]
theorem S_Orders_at_number : FnScope N_Orders_at_number ["self", "number"] (defScope (inClass (top 25) 8)) := ⟨rfl, rfl, rfl, by decide +kernel, rfl, by decide +kernel, by decide +kernel⟩
def VI_Orders_at_number : List Nat := [0, 1]
theorem V_Orders_at_number : visI (defScope (inClass (top 25) 8)) N_Orders_at_number VI_Orders_at_number = true := by decide +kernel
def SI_Orders_at_number : List Nat := []
theorem ST_Orders_at_number : stoI (defScope (inClass (top 25) 8)) (fun _ => true) N_Orders_at_number SI_Orders_at_number = true := by decide +kernel
def GL_Orders_at_number : List Str := ["len", "Missing"]
theorem G_Orders_at_number : glI (defScope (inClass (top 25) 8)) GL_Orders_at_number = true := by decide +kernel
theorem f_Orders_at_number (T : TX K mg) : FnR P w K mg base 1 (He.ma K (He.ga K "Orders") "at_number") (spF K (tg K) m_Orders_at_number) := by
  refine fnR (x := "at_number") (qual := "Orders.at_number") (scope := d_Orders_at_number.scope) (body := d_Orders_at_number.body) (params := d_Orders_at_number.params) (N := N_Orders_at_number) (ps := ["self", "number"]) (k := 0) (mb := b_Orders_at_number) (T.dfn (d := d_Orders_at_number) 22 rfl) S_Orders_at_number (fun _ _ _ _ _ _ us hl => match us, hl with | [_, _], _ => rfl) (fun cdv A outer s H E hr => ?_)
  exact (fss_cons (fs_if (ft_not (ft_chain of_le of_le fe_int (fe_vr (is := VI_Orders_at_number) 1 V_Orders_at_number) (fe_bb bt_len cf_len (glx (L := GL_Orders_at_number) (j := 0) G_Orders_at_number rfl) (g_len T) (fa_cons (fe_fld (f := 11) rfl inj (na_T T) (fe_vr (is := VI_Orders_at_number) 0 V_Orders_at_number)) fa_nil)))) (fss_one (fs_ra (c := 3) rfl takesD (ec_Missing T) (glx (L := GL_Orders_at_number) (j := 1) G_Orders_at_number rfl) (g_Missing T))) fss_nil)
    (fss_one (fs_ret (fe_ix (hu_of hr) (fe_fld (f := 11) rfl inj (na_T T) (fe_vr (is := VI_Orders_at_number) 0 V_Orders_at_number)) (fe_op of_sub (fe_vr (is := VI_Orders_at_number) 1 V_Orders_at_number) fe_int)))))
def N_Orders_may : List Str := ["self", "name", "role"]
theorem S_Orders_may : FnScope N_Orders_may ["self", "name", "role"] (defScope (inClass (top 25) 3)) := ⟨rfl, rfl, rfl, by decide +kernel, rfl, by decide +kernel, by decide +kernel⟩
def VI_Orders_may : List Nat := [0, 1, 2]
theorem V_Orders_may : visI (defScope (inClass (top 25) 3)) N_Orders_may VI_Orders_may = true := by decide +kernel
def SI_Orders_may : List Nat := []
theorem ST_Orders_may : stoI (defScope (inClass (top 25) 3)) (fun _ => true) N_Orders_may SI_Orders_may = true := by decide +kernel
def GL_Orders_may : List Str := ["ROLES", "BadValue"]
theorem G_Orders_may : glI (defScope (inClass (top 25) 3)) GL_Orders_may = true := by decide +kernel
theorem f_Orders_may (T : TX K mg) : FnR P w K mg base 1 (He.ma K (He.ga K "Orders") "may") (spF K (tg K) m_Orders_may) := by
  refine fnR (x := "may") (qual := "Orders.may") (scope := d_Orders_may.scope) (body := d_Orders_may.body) (params := d_Orders_may.params) (N := N_Orders_may) (ps := ["self", "name", "role"]) (k := 0) (mb := b_Orders_may) (T.dfn (d := d_Orders_may) 23 rfl) S_Orders_may (fun _ _ _ _ _ _ us hl => match us, hl with | [_, _, _], _ => rfl) (fun cdv A outer s H E hr => ?_)
  exact (fss_cons (fs_if (ft_cmp (of_notIn (hu_of hr)) (fe_vr (is := VI_Orders_may) 2 V_Orders_may) (fe_gv (glx (L := GL_Orders_may) (j := 0) G_Orders_may rfl) (g_ROLES T)) rfl) (fss_one (fs_ra (c := 1) rfl takesD (ec_BadValue T) (glx (L := GL_Orders_may) (j := 1) G_Orders_may rfl) (g_BadValue T))) fss_nil)
    (fss_cons (fs_if (ft_cmp (of_notIn (hu_of hr)) (fe_vr (is := VI_Orders_may) 1 V_Orders_may) (fe_fld (f := 9) rfl inj (na_T T) (fe_vr (is := VI_Orders_may) 0 V_Orders_may)) rfl) (fss_one (fs_ret fe_bl)) fss_nil)
    (fss_one (fs_ret (fe_cmp of_ge (fe_indexT (glx (L := GL_Orders_may) (j := 0) G_Orders_may rfl) (gT_ROLES T) (fa_cons (fe_ix (hu_of hr) (fe_fld (f := 9) rfl inj (na_T T) (fe_vr (is := VI_Orders_may) 0 V_Orders_may)) (fe_vr (is := VI_Orders_may) 1 V_Orders_may)) fa_nil)) (fe_indexT (glx (L := GL_Orders_may) (j := 0) G_Orders_may rfl) (gT_ROLES T) (fa_cons (fe_vr (is := VI_Orders_may) 2 V_Orders_may) fa_nil)) rfl)))))
def N_Orders_waiting_for : List Str := ["self", "by", "number", "found"]
theorem S_Orders_waiting_for : FnScope N_Orders_waiting_for ["self", "by", "number"] (defScope (inClass (top 25) 9)) := ⟨rfl, rfl, rfl, by decide +kernel, rfl, by decide +kernel, by decide +kernel⟩
def VI_Orders_waiting_for : List Nat := [0, 1, 2, 3]
theorem V_Orders_waiting_for : visI (defScope (inClass (top 25) 9)) N_Orders_waiting_for VI_Orders_waiting_for = true := by decide +kernel
def SI_Orders_waiting_for : List Nat := [3]
theorem ST_Orders_waiting_for : stoI (defScope (inClass (top 25) 9)) (fun _ => true) N_Orders_waiting_for SI_Orders_waiting_for = true := by decide +kernel
def GL_Orders_waiting_for : List Str := ["NotAllowed", "Refused"]
theorem G_Orders_waiting_for : glI (defScope (inClass (top 25) 9)) GL_Orders_waiting_for = true := by decide +kernel
theorem f_Orders_waiting_for (T : TX K mg) : FnR P w K mg base 2 (He.ma K (He.ga K "Orders") "waiting_for") (spF K (tg K) m_Orders_waiting_for) := by
  refine fnR (x := "waiting_for") (qual := "Orders.waiting_for") (scope := d_Orders_waiting_for.scope) (body := d_Orders_waiting_for.body) (params := d_Orders_waiting_for.params) (N := N_Orders_waiting_for) (ps := ["self", "by", "number"]) (k := 1) (mb := b_Orders_waiting_for) (T.dfn (d := d_Orders_waiting_for) 24 rfl) S_Orders_waiting_for (fun _ _ _ _ _ _ us hl => match us, hl with | [_, _, _], _ => rfl) (fun cdv A outer s H E hr => ?_)
  exact (fss_cons (fs_if (ft_cmp (of_notIn (hu_of hr)) (fe_vr (is := VI_Orders_waiting_for) 1 V_Orders_waiting_for) (fe_fld (f := 9) rfl inj (na_T T) (fe_vr (is := VI_Orders_waiting_for) 0 V_Orders_waiting_for)) rfl) (fss_one (fs_ra (c := 6) rfl takesD (ec_NotAllowed T) (glx (L := GL_Orders_waiting_for) (j := 0) G_Orders_waiting_for rfl) (g_NotAllowed T))) fss_nil)
    (fss_cons (fs_st (is := SI_Orders_waiting_for) 3 S_Orders_waiting_for.nd ST_Orders_waiting_for (fe_meth (c := 9) (bad := none) (FnR.cal (f_Orders_at_number T) (hr.mono (by decide))) (cl_Orders T) (mt_Orders_at_number T) inj (bad_at_number) takesD (fe_vr (is := VI_Orders_waiting_for) 0 V_Orders_waiting_for) (fa_cons (fe_vr (is := VI_Orders_waiting_for) 2 V_Orders_waiting_for) fa_nil)))
    (fss_cons (fs_if (ft_cmp (of_ne (hr.units)) (fe_fld (f := 8) rfl inj (na_T T) (fe_vr (is := VI_Orders_waiting_for) 3 V_Orders_waiting_for)) fe_str rfl) (fss_one (fs_ra (c := 4) rfl takesD (ec_Refused T) (glx (L := GL_Orders_waiting_for) (j := 1) G_Orders_waiting_for rfl) (g_Refused T))) fss_nil)
    (fss_cons (fs_if (PW.pt (fw_or (ft_cmp (of_eq (hr.units)) (fe_fld (f := 0) rfl inj (na_T T) (fe_vr (is := VI_Orders_waiting_for) 3 V_Orders_waiting_for)) (fe_vr (is := VI_Orders_waiting_for) 1 V_Orders_waiting_for) rfl) (fw_or1 (ft_not (ft_tru (fe_meth (c := 9) (bad := none) (FnR.cal (f_Orders_may T) (hr.mono (by decide))) (cl_Orders T) (mt_Orders_may T) inj (bad_may) takesD (fe_vr (is := VI_Orders_waiting_for) 0 V_Orders_waiting_for) (fa_cons (fe_vr (is := VI_Orders_waiting_for) 1 V_Orders_waiting_for) (fa_cons (fe_fld (f := 6) rfl inj (na_T T) (fe_vr (is := VI_Orders_waiting_for) 3 V_Orders_waiting_for)) fa_nil)))))))) (fss_one (fs_ra (c := 6) rfl takesD (ec_NotAllowed T) (glx (L := GL_Orders_waiting_for) (j := 0) G_Orders_waiting_for rfl) (g_NotAllowed T))) fss_nil)
    (fss_one (fs_ret (fe_vr (is := VI_Orders_waiting_for) 3 V_Orders_waiting_for)))))))
def N_Orders_grant : List Str := ["self", "by", "number", "found"]
theorem S_Orders_grant : FnScope N_Orders_grant ["self", "by", "number"] (defScope (inClass (top 25) 10)) := ⟨rfl, rfl, rfl, by decide +kernel, rfl, by decide +kernel, by decide +kernel⟩
def VI_Orders_grant : List Nat := [0, 1, 2, 3]
theorem V_Orders_grant : visI (defScope (inClass (top 25) 10)) N_Orders_grant VI_Orders_grant = true := by decide +kernel
def SI_Orders_grant : List Nat := [3]
theorem ST_Orders_grant : stoI (defScope (inClass (top 25) 10)) (fun _ => true) N_Orders_grant SI_Orders_grant = true := by decide +kernel
def GL_Orders_grant : List Str := ["NotAllowed", "len"]
theorem G_Orders_grant : glI (defScope (inClass (top 25) 10)) GL_Orders_grant = true := by decide +kernel
theorem f_Orders_grant (T : TX K mg) : FnR P w K mg base 3 (He.ma K (He.ga K "Orders") "grant") (spF K (tg K) m_Orders_grant) := by
  refine fnR (x := "grant") (qual := "Orders.grant") (scope := d_Orders_grant.scope) (body := d_Orders_grant.body) (params := d_Orders_grant.params) (N := N_Orders_grant) (ps := ["self", "by", "number"]) (k := 2) (mb := b_Orders_grant) (T.dfn (d := d_Orders_grant) 25 rfl) S_Orders_grant (fun _ _ _ _ _ _ us hl => match us, hl with | [_, _, _], _ => rfl) (fun cdv A outer s H E hr => ?_)
  exact (fss_cons (fs_st (is := SI_Orders_grant) 3 S_Orders_grant.nd ST_Orders_grant (fe_meth (c := 9) (bad := none) (FnR.cal (f_Orders_waiting_for T) (hr.mono (by decide))) (cl_Orders T) (mt_Orders_waiting_for T) inj (bad_waiting_for) takesD (fe_vr (is := VI_Orders_grant) 0 V_Orders_grant) (fa_cons (fe_vr (is := VI_Orders_grant) 1 V_Orders_grant) (fa_cons (fe_vr (is := VI_Orders_grant) 2 V_Orders_grant) fa_nil))))
    (fss_cons (fs_if (ft_cmp (of_in (hu_of hr)) (fe_vr (is := VI_Orders_grant) 1 V_Orders_grant) (fe_fld (f := 7) rfl inj (na_T T) (fe_vr (is := VI_Orders_grant) 3 V_Orders_grant)) rfl) (fss_one (fs_ra (c := 6) rfl takesD (ec_NotAllowed T) (glx (L := GL_Orders_grant) (j := 0) G_Orders_grant rfl) (g_NotAllowed T))) fss_nil)
    (fss_cons (fs_expr (fe_append (fe_fld (f := 7) rfl inj (na_T T) (fe_vr (is := VI_Orders_grant) 3 V_Orders_grant)) (fa_cons (fe_vr (is := VI_Orders_grant) 1 V_Orders_grant) fa_nil)))
    (fss_cons (fs_if (ft_cmp (of_eq (hr.units)) (fe_bb bt_len cf_len (glx (L := GL_Orders_grant) (j := 1) G_Orders_grant rfl) (g_len T) (fa_cons (fe_fld (f := 7) rfl inj (na_T T) (fe_vr (is := VI_Orders_grant) 3 V_Orders_grant)) fa_nil)) (fe_fld (f := 5) rfl inj (na_T T) (fe_vr (is := VI_Orders_grant) 3 V_Orders_grant)) rfl) (fss_one (fs_fld (f := 8) rfl inj (na_T T) (fe_vr (is := VI_Orders_grant) 3 V_Orders_grant) fe_str)) fss_nil)
    (fss_one (fs_ret (fe_fld (f := 8) rfl inj (na_T T) (fe_vr (is := VI_Orders_grant) 3 V_Orders_grant))))))))
def N_Orders_reject : List Str := ["self", "by", "number", "found"]
theorem S_Orders_reject : FnScope N_Orders_reject ["self", "by", "number"] (defScope (inClass (top 25) 11)) := ⟨rfl, rfl, rfl, by decide +kernel, rfl, by decide +kernel, by decide +kernel⟩
def VI_Orders_reject : List Nat := [0, 1, 2, 3]
theorem V_Orders_reject : visI (defScope (inClass (top 25) 11)) N_Orders_reject VI_Orders_reject = true := by decide +kernel
def SI_Orders_reject : List Nat := [3]
theorem ST_Orders_reject : stoI (defScope (inClass (top 25) 11)) (fun _ => true) N_Orders_reject SI_Orders_reject = true := by decide +kernel
def GL_Orders_reject : List Str := []
theorem G_Orders_reject : glI (defScope (inClass (top 25) 11)) GL_Orders_reject = true := by decide +kernel
theorem f_Orders_reject (T : TX K mg) : FnR P w K mg base 3 (He.ma K (He.ga K "Orders") "reject") (spF K (tg K) m_Orders_reject) := by
  refine fnR (x := "reject") (qual := "Orders.reject") (scope := d_Orders_reject.scope) (body := d_Orders_reject.body) (params := d_Orders_reject.params) (N := N_Orders_reject) (ps := ["self", "by", "number"]) (k := 2) (mb := b_Orders_reject) (T.dfn (d := d_Orders_reject) 26 rfl) S_Orders_reject (fun _ _ _ _ _ _ us hl => match us, hl with | [_, _, _], _ => rfl) (fun cdv A outer s H E hr => ?_)
  exact (fss_cons (fs_st (is := SI_Orders_reject) 3 S_Orders_reject.nd ST_Orders_reject (fe_meth (c := 9) (bad := none) (FnR.cal (f_Orders_waiting_for T) (hr.mono (by decide))) (cl_Orders T) (mt_Orders_waiting_for T) inj (bad_waiting_for) takesD (fe_vr (is := VI_Orders_reject) 0 V_Orders_reject) (fa_cons (fe_vr (is := VI_Orders_reject) 1 V_Orders_reject) (fa_cons (fe_vr (is := VI_Orders_reject) 2 V_Orders_reject) fa_nil))))
    (fss_cons (fs_fld (f := 8) rfl inj (na_T T) (fe_vr (is := VI_Orders_reject) 3 V_Orders_reject) fe_str)
    (fss_one (fs_ret (fe_fld (f := 8) rfl inj (na_T T) (fe_vr (is := VI_Orders_reject) 3 V_Orders_reject))))))
def N_Orders_withdraw : List Str := ["self", "by", "number", "found"]
theorem S_Orders_withdraw : FnScope N_Orders_withdraw ["self", "by", "number"] (defScope (inClass (top 25) 12)) := ⟨rfl, rfl, rfl, by decide +kernel, rfl, by decide +kernel, by decide +kernel⟩
def VI_Orders_withdraw : List Nat := [0, 1, 2, 3]
theorem V_Orders_withdraw : visI (defScope (inClass (top 25) 12)) N_Orders_withdraw VI_Orders_withdraw = true := by decide +kernel
def SI_Orders_withdraw : List Nat := [3]
theorem ST_Orders_withdraw : stoI (defScope (inClass (top 25) 12)) (fun _ => true) N_Orders_withdraw SI_Orders_withdraw = true := by decide +kernel
def GL_Orders_withdraw : List Str := ["NotAllowed", "Refused"]
theorem G_Orders_withdraw : glI (defScope (inClass (top 25) 12)) GL_Orders_withdraw = true := by decide +kernel
theorem f_Orders_withdraw (T : TX K mg) : FnR P w K mg base 2 (He.ma K (He.ga K "Orders") "withdraw") (spF K (tg K) m_Orders_withdraw) := by
  refine fnR (x := "withdraw") (qual := "Orders.withdraw") (scope := d_Orders_withdraw.scope) (body := d_Orders_withdraw.body) (params := d_Orders_withdraw.params) (N := N_Orders_withdraw) (ps := ["self", "by", "number"]) (k := 1) (mb := b_Orders_withdraw) (T.dfn (d := d_Orders_withdraw) 27 rfl) S_Orders_withdraw (fun _ _ _ _ _ _ us hl => match us, hl with | [_, _, _], _ => rfl) (fun cdv A outer s H E hr => ?_)
  exact (fss_cons (fs_st (is := SI_Orders_withdraw) 3 S_Orders_withdraw.nd ST_Orders_withdraw (fe_meth (c := 9) (bad := none) (FnR.cal (f_Orders_at_number T) (hr.mono (by decide))) (cl_Orders T) (mt_Orders_at_number T) inj (bad_at_number) takesD (fe_vr (is := VI_Orders_withdraw) 0 V_Orders_withdraw) (fa_cons (fe_vr (is := VI_Orders_withdraw) 2 V_Orders_withdraw) fa_nil)))
    (fss_cons (fs_if (ft_cmp (of_ne (hr.units)) (fe_fld (f := 0) rfl inj (na_T T) (fe_vr (is := VI_Orders_withdraw) 3 V_Orders_withdraw)) (fe_vr (is := VI_Orders_withdraw) 1 V_Orders_withdraw) rfl) (fss_one (fs_ra (c := 6) rfl takesD (ec_NotAllowed T) (glx (L := GL_Orders_withdraw) (j := 0) G_Orders_withdraw rfl) (g_NotAllowed T))) fss_nil)
    (fss_cons (fs_if (ft_cmp (of_notIn (hu_of hr)) (fe_fld (f := 8) rfl inj (na_T T) (fe_vr (is := VI_Orders_withdraw) 3 V_Orders_withdraw)) (fe_tup (fa_cons fe_str (fa_cons fe_str fa_nil))) rfl) (fss_one (fs_ra (c := 4) rfl takesD (ec_Refused T) (glx (L := GL_Orders_withdraw) (j := 1) G_Orders_withdraw rfl) (g_Refused T))) fss_nil)
    (fss_cons (fs_fld (f := 8) rfl inj (na_T T) (fe_vr (is := VI_Orders_withdraw) 3 V_Orders_withdraw) fe_str)
    (fss_one (fs_ret (fe_fld (f := 8) rfl inj (na_T T) (fe_vr (is := VI_Orders_withdraw) 3 V_Orders_withdraw))))))))
def N_Orders_end : List Str := ["self", "number", "state", "found"]
theorem S_Orders_end : FnScope N_Orders_end ["self", "number", "state"] (defScope (inClass (top 25) 14)) := ⟨rfl, rfl, rfl, by decide +kernel, rfl, by decide +kernel, by decide +kernel⟩
def VI_Orders_end : List Nat := [0, 1, 2, 3]
theorem V_Orders_end : visI (defScope (inClass (top 25) 14)) N_Orders_end VI_Orders_end = true := by decide +kernel
def SI_Orders_end : List Nat := [3]
theorem ST_Orders_end : stoI (defScope (inClass (top 25) 14)) (fun _ => true) N_Orders_end SI_Orders_end = true := by decide +kernel
def GL_Orders_end : List Str := ["Refused"]
theorem G_Orders_end : glI (defScope (inClass (top 25) 14)) GL_Orders_end = true := by decide +kernel
theorem f_Orders_end (T : TX K mg) : FnR P w K mg base 2 (He.ma K (He.ga K "Orders") "end") (spF K (tg K) m_Orders_end) := by
  refine fnR (x := "end") (qual := "Orders.end") (scope := d_Orders_end.scope) (body := d_Orders_end.body) (params := d_Orders_end.params) (N := N_Orders_end) (ps := ["self", "number", "state"]) (k := 1) (mb := b_Orders_end) (T.dfn (d := d_Orders_end) 28 rfl) S_Orders_end (fun _ _ _ _ _ _ us hl => match us, hl with | [_, _, _], _ => rfl) (fun cdv A outer s H E hr => ?_)
  exact (fss_cons (fs_st (is := SI_Orders_end) 3 S_Orders_end.nd ST_Orders_end (fe_meth (c := 9) (bad := none) (FnR.cal (f_Orders_at_number T) (hr.mono (by decide))) (cl_Orders T) (mt_Orders_at_number T) inj (bad_at_number) takesD (fe_vr (is := VI_Orders_end) 0 V_Orders_end) (fa_cons (fe_vr (is := VI_Orders_end) 1 V_Orders_end) fa_nil)))
    (fss_cons (fs_if (ft_cmp (of_ne (hr.units)) (fe_fld (f := 8) rfl inj (na_T T) (fe_vr (is := VI_Orders_end) 3 V_Orders_end)) fe_str rfl) (fss_one (fs_ra (c := 4) rfl takesD (ec_Refused T) (glx (L := GL_Orders_end) (j := 0) G_Orders_end rfl) (g_Refused T))) fss_nil)
    (fss_cons (fs_fld (f := 8) rfl inj (na_T T) (fe_vr (is := VI_Orders_end) 3 V_Orders_end) (fe_vr (is := VI_Orders_end) 2 V_Orders_end))
    (fss_one (fs_ret (fe_fld (f := 8) rfl inj (na_T T) (fe_vr (is := VI_Orders_end) 3 V_Orders_end)))))))
def N_Orders_complete : List Str := ["self", "number"]
theorem S_Orders_complete : FnScope N_Orders_complete ["self", "number"] (defScope (inClass (top 25) 15)) := ⟨rfl, rfl, rfl, by decide +kernel, rfl, by decide +kernel, by decide +kernel⟩
def VI_Orders_complete : List Nat := [0, 1]
theorem V_Orders_complete : visI (defScope (inClass (top 25) 15)) N_Orders_complete VI_Orders_complete = true := by decide +kernel
def SI_Orders_complete : List Nat := []
theorem ST_Orders_complete : stoI (defScope (inClass (top 25) 15)) (fun _ => true) N_Orders_complete SI_Orders_complete = true := by decide +kernel
def GL_Orders_complete : List Str := []
theorem G_Orders_complete : glI (defScope (inClass (top 25) 15)) GL_Orders_complete = true := by decide +kernel
theorem f_Orders_complete (T : TX K mg) : FnR P w K mg base 3 (He.ma K (He.ga K "Orders") "complete") (spF K (tg K) m_Orders_complete) := by
  refine fnR (x := "complete") (qual := "Orders.complete") (scope := d_Orders_complete.scope) (body := d_Orders_complete.body) (params := d_Orders_complete.params) (N := N_Orders_complete) (ps := ["self", "number"]) (k := 2) (mb := b_Orders_complete) (T.dfn (d := d_Orders_complete) 29 rfl) S_Orders_complete (fun _ _ _ _ _ _ us hl => match us, hl with | [_, _], _ => rfl) (fun cdv A outer s H E hr => ?_)
  exact (fss_one (fs_ret (fe_meth (c := 9) (bad := none) (FnR.cal (f_Orders_end T) (hr.mono (by decide))) (cl_Orders T) (mt_Orders_end T) inj (bad_end) takesD (fe_vr (is := VI_Orders_complete) 0 V_Orders_complete) (fa_cons (fe_vr (is := VI_Orders_complete) 1 V_Orders_complete) (fa_cons fe_str fa_nil)))))
def N_Orders_fail : List Str := ["self", "number"]
theorem S_Orders_fail : FnScope N_Orders_fail ["self", "number"] (defScope (inClass (top 25) 16)) := ⟨rfl, rfl, rfl, by decide +kernel, rfl, by decide +kernel, by decide +kernel⟩
def VI_Orders_fail : List Nat := [0, 1]
theorem V_Orders_fail : visI (defScope (inClass (top 25) 16)) N_Orders_fail VI_Orders_fail = true := by decide +kernel
def SI_Orders_fail : List Nat := []
theorem ST_Orders_fail : stoI (defScope (inClass (top 25) 16)) (fun _ => true) N_Orders_fail SI_Orders_fail = true := by decide +kernel
def GL_Orders_fail : List Str := []
theorem G_Orders_fail : glI (defScope (inClass (top 25) 16)) GL_Orders_fail = true := by decide +kernel
theorem f_Orders_fail (T : TX K mg) : FnR P w K mg base 3 (He.ma K (He.ga K "Orders") "fail") (spF K (tg K) m_Orders_fail) := by
  refine fnR (x := "fail") (qual := "Orders.fail") (scope := d_Orders_fail.scope) (body := d_Orders_fail.body) (params := d_Orders_fail.params) (N := N_Orders_fail) (ps := ["self", "number"]) (k := 2) (mb := b_Orders_fail) (T.dfn (d := d_Orders_fail) 30 rfl) S_Orders_fail (fun _ _ _ _ _ _ us hl => match us, hl with | [_, _], _ => rfl) (fun cdv A outer s H E hr => ?_)
  exact (fss_one (fs_ret (fe_meth (c := 9) (bad := none) (FnR.cal (f_Orders_end T) (hr.mono (by decide))) (cl_Orders T) (mt_Orders_end T) inj (bad_end) takesD (fe_vr (is := VI_Orders_fail) 0 V_Orders_fail) (fa_cons (fe_vr (is := VI_Orders_fail) 1 V_Orders_fail) (fa_cons fe_str fa_nil)))))
def N_Orders_expire : List Str := ["self", "day", "numbers", "at", "placed"]
theorem S_Orders_expire : FnScope N_Orders_expire ["self", "day"] (defScope (inClass (top 25) 13)) := ⟨rfl, rfl, rfl, by decide +kernel, rfl, by decide +kernel, by decide +kernel⟩
def VI_Orders_expire : List Nat := [0, 1, 2, 3, 4]
theorem V_Orders_expire : visI (defScope (inClass (top 25) 13)) N_Orders_expire VI_Orders_expire = true := by decide +kernel
def SI_Orders_expire : List Nat := [2, 3, 4]
theorem ST_Orders_expire : stoI (defScope (inClass (top 25) 13)) (fun _ => true) N_Orders_expire SI_Orders_expire = true := by decide +kernel
def GL_Orders_expire : List Str := ["enumerate"]
theorem G_Orders_expire : glI (defScope (inClass (top 25) 13)) GL_Orders_expire = true := by decide +kernel
theorem f_Orders_expire (T : TX K mg) : FnR P w K mg base 1 (He.ma K (He.ga K "Orders") "expire") (spF K (tg K) m_Orders_expire) := by
  refine fnR (x := "expire") (qual := "Orders.expire") (scope := d_Orders_expire.scope) (body := d_Orders_expire.body) (params := d_Orders_expire.params) (N := N_Orders_expire) (ps := ["self", "day"]) (k := 0) (mb := b_Orders_expire) (T.dfn (d := d_Orders_expire) 31 rfl) S_Orders_expire (fun _ _ _ _ _ _ us hl => match us, hl with | [_, _], _ => rfl) (fun cdv A outer s H E hr => ?_)
  exact (fss_cons (fs_st (is := SI_Orders_expire) 2 S_Orders_expire.nd ST_Orders_expire (fe_lst fa_nil))
    (fss_cons (fs_for passD rfl (fi_enum (glx (L := GL_Orders_expire) (j := 0) G_Orders_expire rfl).gl (g_enumerate T) (fa_cons (fe_fld (f := 11) rfl inj (na_T T) (fe_vr (is := VI_Orders_expire) 0 V_Orders_expire)) fa_nil)) (fg_tup rfl (fgs_cons (fg_nm (is := SI_Orders_expire) 3 S_Orders_expire.nd ST_Orders_expire) (fgs_cons (fg_nm (is := SI_Orders_expire) 4 S_Orders_expire.nd ST_Orders_expire) fgs_nil)))
      (fss_one (fs_if (PW.pt (fw_and (ft_cmp (of_in (hu_of hr)) (fe_fld (f := 8) rfl inj (na_T T) (fe_vr (is := VI_Orders_expire) 4 V_Orders_expire)) (fe_tup (fa_cons fe_str (fa_cons fe_str fa_nil))) rfl) (fw_and1 (ft_cmp of_lt (fe_fld (f := 4) rfl inj (na_T T) (fe_vr (is := VI_Orders_expire) 4 V_Orders_expire)) (fe_vr (is := VI_Orders_expire) 1 V_Orders_expire) rfl)))) (fss_cons (fs_fld (f := 8) rfl inj (na_T T) (fe_vr (is := VI_Orders_expire) 4 V_Orders_expire) fe_str)
    (fss_one (fs_expr (fe_append (fe_vr (is := VI_Orders_expire) 2 V_Orders_expire) (fa_cons (fe_op of_add (fe_vr (is := VI_Orders_expire) 3 V_Orders_expire) fe_int) fa_nil))))) fss_nil)))
    (fss_one (fs_ret (fe_vr (is := VI_Orders_expire) 2 V_Orders_expire)))))
def N_law_class : List Str := ["_law_e", "_law_found"]
theorem S_law_class : FnScope N_law_class ["_law_e"] (defScope (top 28)) := ⟨rfl, rfl, rfl, by decide +kernel, rfl, by decide +kernel, by decide +kernel⟩
def VI_law_class : List Nat := [0, 1]
theorem V_law_class : visI (defScope (top 28)) N_law_class VI_law_class = true := by decide +kernel
def SI_law_class : List Nat := [1]
theorem ST_law_class : stoI (defScope (top 28)) (fun _ => true) N_law_class SI_law_class = true := by decide +kernel
def GL_law_class : List Str := ["isinstance", "BadValue", "BadDay", "Missing", "Refused", "Full", "NotAllowed", "Damaged", "len", "ValueError"]
theorem G_law_class : glI (defScope (top 28)) GL_law_class = true := by decide +kernel
theorem f_law_class (T : TX K mg) {a0 : Addr} {oe : Obj} {c : Nat} (hz : L2N.Zn (.ref ((tg K).ca c)) none oe) (hf : ∃ vs, oe.data = .fields vs) : FnRQ (a0, oe) P w K mg base 1 (He.ga K "_law_class") (spF K (tg K) (m_law_class a0 c)) := by
  refine fnRQ (x := "_law_class") (qual := "_law_class") (scope := d_law_class.scope) (body := d_law_class.body) (params := d_law_class.params) (N := N_law_class) (ps := ["_law_e"]) (k := 0) (mb := b_law_class a0 c) (T.dfn (d := d_law_class) 32 rfl) S_law_class (fun _ _ _ _ _ _ us hl => match us, hl with | [_], _ => rfl) (fun cdv A outer s H E hot hr => ?_)
  have hp : (a0, oe) ∈ (L2H.cxH (L2N.CX P w) P w K mg base N_law_class "_law_class" d_law_class.scope (He.ga K "_law_class") cdv A outer s H E (a0, oe)).pn := List.mem_singleton.mpr rfl
  exact (fss_cons (fs_st (is := SI_law_class) 1 S_law_class.nd ST_law_class (fe_lst fa_nil))
    (fss_cons (fs_if (ft_tru (fe_ix1 (cy := 1) (tab := tab_BadValue) (is := VI_law_class) hp hz hf V_law_class (glx (L := GL_law_class) (j := 0) G_law_class rfl) (g_isinstance T) (glx (L := GL_law_class) (j := 1) G_law_class rfl) (g_BadValue T) (ex_ok T exh_BadValue) (is_ok T ish_BadValue))) (fss_one (fs_expr (fe_append (fe_vr (is := VI_law_class) 1 V_law_class) (fa_cons fe_str fa_nil)))) fss_nil)
    (fss_cons (fs_if (ft_tru (fe_ix1 (cy := 2) (tab := tab_BadDay) (is := VI_law_class) hp hz hf V_law_class (glx (L := GL_law_class) (j := 0) G_law_class rfl) (g_isinstance T) (glx (L := GL_law_class) (j := 2) G_law_class rfl) (g_BadDay T) (ex_ok T exh_BadDay) (is_ok T ish_BadDay))) (fss_one (fs_expr (fe_append (fe_vr (is := VI_law_class) 1 V_law_class) (fa_cons fe_str fa_nil)))) fss_nil)
    (fss_cons (fs_if (ft_tru (fe_ix1 (cy := 3) (tab := tab_Missing) (is := VI_law_class) hp hz hf V_law_class (glx (L := GL_law_class) (j := 0) G_law_class rfl) (g_isinstance T) (glx (L := GL_law_class) (j := 3) G_law_class rfl) (g_Missing T) (ex_ok T exh_Missing) (is_ok T ish_Missing))) (fss_one (fs_expr (fe_append (fe_vr (is := VI_law_class) 1 V_law_class) (fa_cons fe_str fa_nil)))) fss_nil)
    (fss_cons (fs_if (ft_tru (fe_ix1 (cy := 4) (tab := tab_Refused) (is := VI_law_class) hp hz hf V_law_class (glx (L := GL_law_class) (j := 0) G_law_class rfl) (g_isinstance T) (glx (L := GL_law_class) (j := 4) G_law_class rfl) (g_Refused T) (ex_ok T exh_Refused) (is_ok T ish_Refused))) (fss_one (fs_expr (fe_append (fe_vr (is := VI_law_class) 1 V_law_class) (fa_cons fe_str fa_nil)))) fss_nil)
    (fss_cons (fs_if (ft_tru (fe_ix1 (cy := 5) (tab := tab_Full) (is := VI_law_class) hp hz hf V_law_class (glx (L := GL_law_class) (j := 0) G_law_class rfl) (g_isinstance T) (glx (L := GL_law_class) (j := 5) G_law_class rfl) (g_Full T) (ex_ok T exh_Full) (is_ok T ish_Full))) (fss_one (fs_expr (fe_append (fe_vr (is := VI_law_class) 1 V_law_class) (fa_cons fe_str fa_nil)))) fss_nil)
    (fss_cons (fs_if (ft_tru (fe_ix1 (cy := 6) (tab := tab_NotAllowed) (is := VI_law_class) hp hz hf V_law_class (glx (L := GL_law_class) (j := 0) G_law_class rfl) (g_isinstance T) (glx (L := GL_law_class) (j := 6) G_law_class rfl) (g_NotAllowed T) (ex_ok T exh_NotAllowed) (is_ok T ish_NotAllowed))) (fss_one (fs_expr (fe_append (fe_vr (is := VI_law_class) 1 V_law_class) (fa_cons fe_str fa_nil)))) fss_nil)
    (fss_cons (fs_if (ft_tru (fe_ix1 (cy := 7) (tab := tab_Damaged) (is := VI_law_class) hp hz hf V_law_class (glx (L := GL_law_class) (j := 0) G_law_class rfl) (g_isinstance T) (glx (L := GL_law_class) (j := 7) G_law_class rfl) (g_Damaged T) (ex_ok T exh_Damaged) (is_ok T ish_Damaged))) (fss_one (fs_expr (fe_append (fe_vr (is := VI_law_class) 1 V_law_class) (fa_cons fe_str fa_nil)))) fss_nil)
    (fss_cons (fs_if (PW.pt (fw_and (ft_cmp (of_eq (huH64 hr)) (fe_bb bt_len cf_len (glx (L := GL_law_class) (j := 8) G_law_class rfl) (g_len T) (fa_cons (fe_vr (is := VI_law_class) 1 V_law_class) fa_nil)) fe_int rfl) (fw_and1 (ft_tru (fe_ix2 (tab := tab_ValueError) (is := VI_law_class) hp hz hf V_law_class (glx (L := GL_law_class) (j := 0) G_law_class rfl) (g_isinstance T) (glx (L := GL_law_class) (j := 9) G_law_class rfl) (g_ValueError T) (ex_ok T exh_ValueError) (iv_ok T ivh)))))) (fss_one (fs_ret (fe_ix (huH1 hr) (fe_vr (is := VI_law_class) 1 V_law_class) fe_int))) fss_nil)
    (fss_one (fs_ret fe_str)))))))))))
theorem ind_law_class (a c : Nat) (G : Gh) : m_law_class a c [.exc a] G = m_law_class 0 c [.exc 0] G := by
  refine sim_fun ?_ G
  repeat' first | exact sim_v | exact sim_c | exact sim_is | exact sim_nil | exact sim_nx | apply sim_op | apply sim_cons | apply sim_lst | apply sim_b | apply sim_mt | apply sim_tru | apply sim_asB | apply sim_not | apply sim_and | apply sim_drop | apply sim_ret | apply sim_asg | apply sim_if | apply sim_seq
def N_law_call : List Str := ["_law_orders", "_law_what", "_law_by", "_law_number", "_law_day", "_law_answer", "_law_e"]
theorem S_law_call : FnScope N_law_call ["_law_orders", "_law_what", "_law_by", "_law_number", "_law_day"] (defScope (top 33)) := ⟨rfl, rfl, rfl, by decide +kernel, rfl, by decide +kernel, by decide +kernel⟩
def VI_law_call : List Nat := [0, 1, 2, 3, 4, 5, 6]
theorem V_law_call : visI (defScope (top 33)) N_law_call VI_law_call = true := by decide +kernel
def SI_law_call : List Nat := [5, 6]
theorem ST_law_call : stoI (defScope (top 33)) (fun _ => true) N_law_call SI_law_call = true := by decide +kernel
def GL_law_call : List Str := ["BankError", "_law_class"]
theorem G_law_call : glI (defScope (top 33)) GL_law_call = true := by decide +kernel
theorem h_law_call_1_ok (a c : Nat) (env : Ev) (G : Gh) (h : 6 < env.length) : (h_law_call_1 a c (env.set 6 (some (.exc a))) G).clr 6 = (h0_law_call_1 c env G).clr 6 := by
  simp [h_law_call_1, h0_law_call_1, sRet, eCall, aCons, aNil, eVar, eTup, eC, Rs.bind, exS, List.getElem?_set_self h, ind_law_class a]
  try (cases m_law_class 0 c [.exc 0] G <;> rfl)
theorem f_law_call (T : TX K mg) : FnR P w K mg base 4 (He.ga K "_law_call") (spF K (tg K) m_law_call) := by
  refine fnR (x := "_law_call") (qual := "_law_call") (scope := d_law_call.scope) (body := d_law_call.body) (params := d_law_call.params) (N := N_law_call) (ps := ["_law_orders", "_law_what", "_law_by", "_law_number", "_law_day"]) (k := 3) (mb := b_law_call) (T.dfn (d := d_law_call) 33 rfl) S_law_call (fun _ _ _ _ _ _ us hl => match us, hl with | [_, _, _, _, _], _ => rfl) (fun cdv A outer s H E hr => ?_)
  exact (fss_cons (fs_tryAs (cc := 0) (i := 6) (hm' := h_law_call_1) rfl rfl S_law_call.nd rfl (by kernel_rfl) (names_of (glx (L := GL_law_call) (j := 0) G_law_call rfl) (g_BankError T)) takesD (sb0_T T) (fun W1 pn1 xe1 tk1 hp1 => (fss_one (fs_if (ft_cmp (of_eq (hr.units)) (fe_vr (is := VI_law_call) 1 V_law_call) fe_str rfl) (fss_one (fs_st (is := SI_law_call) 5 S_law_call.nd ST_law_call (fe_meth (c := 9) (bad := none) (FnR.cal (f_Orders_grant T) (hr.mono (by decide))) (cl_Orders T) (mt_Orders_grant T) inj (bad_grant) tk1 (fe_vr (is := VI_law_call) 0 V_law_call) (fa_cons (fe_vr (is := VI_law_call) 2 V_law_call) (fa_cons (fe_vr (is := VI_law_call) 3 V_law_call) fa_nil))))) (fss_one (fs_if (ft_cmp (of_eq (hr.units)) (fe_vr (is := VI_law_call) 1 V_law_call) fe_str rfl) (fss_one (fs_st (is := SI_law_call) 5 S_law_call.nd ST_law_call (fe_meth (c := 9) (bad := none) (FnR.cal (f_Orders_reject T) (hr.mono (by decide))) (cl_Orders T) (mt_Orders_reject T) inj (bad_reject) tk1 (fe_vr (is := VI_law_call) 0 V_law_call) (fa_cons (fe_vr (is := VI_law_call) 2 V_law_call) (fa_cons (fe_vr (is := VI_law_call) 3 V_law_call) fa_nil))))) (fss_one (fs_if (ft_cmp (of_eq (hr.units)) (fe_vr (is := VI_law_call) 1 V_law_call) fe_str rfl) (fss_one (fs_st (is := SI_law_call) 5 S_law_call.nd ST_law_call (fe_meth (c := 9) (bad := none) (FnR.cal (f_Orders_withdraw T) (hr.mono (by decide))) (cl_Orders T) (mt_Orders_withdraw T) inj (bad_withdraw) tk1 (fe_vr (is := VI_law_call) 0 V_law_call) (fa_cons (fe_vr (is := VI_law_call) 2 V_law_call) (fa_cons (fe_vr (is := VI_law_call) 3 V_law_call) fa_nil))))) (fss_one (fs_if (ft_cmp (of_eq (hr.units)) (fe_vr (is := VI_law_call) 1 V_law_call) fe_str rfl) (fss_one (fs_st (is := SI_law_call) 5 S_law_call.nd ST_law_call (fe_meth (c := 9) (bad := none) (FnR.cal (f_Orders_complete T) (hr.mono (by decide))) (cl_Orders T) (mt_Orders_complete T) inj (bad_complete) tk1 (fe_vr (is := VI_law_call) 0 V_law_call) (fa_cons (fe_vr (is := VI_law_call) 3 V_law_call) fa_nil)))) (fss_one (fs_if (ft_cmp (of_eq (hr.units)) (fe_vr (is := VI_law_call) 1 V_law_call) fe_str rfl) (fss_one (fs_st (is := SI_law_call) 5 S_law_call.nd ST_law_call (fe_meth (c := 9) (bad := none) (FnR.cal (f_Orders_fail T) (hr.mono (by decide))) (cl_Orders T) (mt_Orders_fail T) inj (bad_fail) tk1 (fe_vr (is := VI_law_call) 0 V_law_call) (fa_cons (fe_vr (is := VI_law_call) 3 V_law_call) fa_nil)))) (fss_one (fs_st (is := SI_law_call) 5 S_law_call.nd ST_law_call (fe_meth (c := 9) (bad := none) (FnR.cal (f_Orders_expire T) (hr.mono (by decide))) (cl_Orders T) (mt_Orders_expire T) inj (bad_expire) tk1 (fe_vr (is := VI_law_call) 0 V_law_call) (fa_cons (fe_vr (is := VI_law_call) 4 V_law_call) fa_nil))))))))))))))) (fun a0 oe c pn hz hf => (fss_one (fs_ret (fe_ca (FnRQ.cal (f_law_class T hz hf) (roomS (hr.mono (by decide))) (hot_suite hz hf) (List.mem_cons_self ..)) (glx (L := GL_law_call) (j := 1) G_law_call rfl) (g__law_class T) takesS (fa_cons (fe_vr (is := VI_law_call) 6 V_law_call) fa_nil))))) h_law_call_1_ok)
    (fss_one (fs_ret (fe_vr (is := VI_law_call) 5 V_law_call))))
def N_Order_told : List Str := ["self"]
theorem S_Order_told : FnScope N_Order_told ["self"] (defScope (inClass (top 24) 2)) := ⟨rfl, rfl, rfl, by decide +kernel, rfl, by decide +kernel, by decide +kernel⟩
def VI_Order_told : List Nat := [0]
theorem V_Order_told : visI (defScope (inClass (top 24) 2)) N_Order_told VI_Order_told = true := by decide +kernel
def SI_Order_told : List Nat := []
theorem ST_Order_told : stoI (defScope (inClass (top 24) 2)) (fun _ => true) N_Order_told SI_Order_told = true := by decide +kernel
def GL_Order_told : List Str := ["list"]
theorem G_Order_told : glI (defScope (inClass (top 24) 2)) GL_Order_told = true := by decide +kernel
theorem f_Order_told (T : TX K mg) : FnR P w K mg base 1 (He.ma K (He.ga K "Order") "told") (spF K (tg K) m_Order_told) := by
  refine fnR (x := "told") (qual := "Order.told") (scope := d_Order_told.scope) (body := d_Order_told.body) (params := d_Order_told.params) (N := N_Order_told) (ps := ["self"]) (k := 0) (mb := b_Order_told) (T.dfn (d := d_Order_told) 34 rfl) S_Order_told (fun _ _ _ _ _ _ us hl => match us, hl with | [_], _ => rfl) (fun cdv A outer s H E hr => ?_)
  exact (fss_one (fs_ret (fe_tup (fa_cons (fe_fld (f := 0) rfl inj (na_T T) (fe_vr (is := VI_Order_told) 0 V_Order_told)) (fa_cons (fe_fld (f := 1) rfl inj (na_T T) (fe_vr (is := VI_Order_told) 0 V_Order_told)) (fa_cons (fe_fld (f := 2) rfl inj (na_T T) (fe_vr (is := VI_Order_told) 0 V_Order_told)) (fa_cons (fe_fld (f := 3) rfl inj (na_T T) (fe_vr (is := VI_Order_told) 0 V_Order_told)) (fa_cons (fe_fld (f := 4) rfl inj (na_T T) (fe_vr (is := VI_Order_told) 0 V_Order_told)) (fa_cons (fe_fld (f := 5) rfl inj (na_T T) (fe_vr (is := VI_Order_told) 0 V_Order_told)) (fa_cons (fe_fld (f := 6) rfl inj (na_T T) (fe_vr (is := VI_Order_told) 0 V_Order_told)) (fa_cons (fe_bt bt_list cf_list (glx (L := GL_Order_told) (j := 0) G_Order_told rfl) (g_list T) (fa_cons (fe_fld (f := 7) rfl inj (na_T T) (fe_vr (is := VI_Order_told) 0 V_Order_told)) fa_nil)) (fa_cons (fe_fld (f := 8) rfl inj (na_T T) (fe_vr (is := VI_Order_told) 0 V_Order_told)) fa_nil))))))))))))
def N_Orders_order : List Str := ["self", "number"]
theorem S_Orders_order : FnScope N_Orders_order ["self", "number"] (defScope (inClass (top 25) 17)) := ⟨rfl, rfl, rfl, by decide +kernel, rfl, by decide +kernel, by decide +kernel⟩
def VI_Orders_order : List Nat := [0, 1]
theorem V_Orders_order : visI (defScope (inClass (top 25) 17)) N_Orders_order VI_Orders_order = true := by decide +kernel
def SI_Orders_order : List Nat := []
theorem ST_Orders_order : stoI (defScope (inClass (top 25) 17)) (fun _ => true) N_Orders_order SI_Orders_order = true := by decide +kernel
def GL_Orders_order : List Str := []
theorem G_Orders_order : glI (defScope (inClass (top 25) 17)) GL_Orders_order = true := by decide +kernel
theorem f_Orders_order (T : TX K mg) : FnR P w K mg base 2 (He.ma K (He.ga K "Orders") "order") (spF K (tg K) m_Orders_order) := by
  refine fnR (x := "order") (qual := "Orders.order") (scope := d_Orders_order.scope) (body := d_Orders_order.body) (params := d_Orders_order.params) (N := N_Orders_order) (ps := ["self", "number"]) (k := 1) (mb := b_Orders_order) (T.dfn (d := d_Orders_order) 35 rfl) S_Orders_order (fun _ _ _ _ _ _ us hl => match us, hl with | [_, _], _ => rfl) (fun cdv A outer s H E hr => ?_)
  exact (fss_one (fs_ret (fe_meth0 (c := 8) (bad := none) (FnR.cal (f_Order_told T) (hr.mono (by decide))) (cl_Order T) (mt_Order_told T) inj (bad_told) takesD (fe_meth (c := 9) (bad := none) (FnR.cal (f_Orders_at_number T) (hr.mono (by decide))) (cl_Orders T) (mt_Orders_at_number T) inj (bad_at_number) takesD (fe_vr (is := VI_Orders_order) 0 V_Orders_order) (fa_cons (fe_vr (is := VI_Orders_order) 1 V_Orders_order) fa_nil)))))
def N_law_stand : List Str := ["_law_orders", "_law_dues", "_law_k", "_law_due_here", "_law_told"]
theorem S_law_stand : FnScope N_law_stand ["_law_orders", "_law_dues"] (defScope (top 37)) := ⟨rfl, rfl, rfl, by decide +kernel, rfl, by decide +kernel, by decide +kernel⟩
def VI_law_stand : List Nat := [0, 1, 2, 3, 4]
theorem V_law_stand : visI (defScope (top 37)) N_law_stand VI_law_stand = true := by decide +kernel
def SI_law_stand : List Nat := [2, 3, 4]
theorem ST_law_stand : stoI (defScope (top 37)) (fun _ => true) N_law_stand SI_law_stand = true := by decide +kernel
def GL_law_stand : List Str := ["_law_same", "len", "range"]
theorem G_law_stand : glI (defScope (top 37)) GL_law_stand = true := by decide +kernel
theorem f_law_stand (T : TX K mg) : FnR P w K mg base 10 (He.ga K "_law_stand") (spF K (tg K) m_law_stand) := by
  refine fnR (x := "_law_stand") (qual := "_law_stand") (scope := d_law_stand.scope) (body := d_law_stand.body) (params := d_law_stand.params) (N := N_law_stand) (ps := ["_law_orders", "_law_dues"]) (k := 9) (mb := b_law_stand) (T.dfn (d := d_law_stand) 36 rfl) S_law_stand (fun _ _ _ _ _ _ us hl => match us, hl with | [_, _], _ => rfl) (fun cdv A outer s H E hr => ?_)
  exact (fss_cons (fs_for passD rfl (fi_rng1 (glx (L := GL_law_stand) (j := 2) G_law_stand rfl).gl (g_range T) (fa_cons (fe_bb bt_len cf_len (glx (L := GL_law_stand) (j := 1) G_law_stand rfl) (g_len T) (fa_cons (fe_vr (is := VI_law_stand) 1 V_law_stand) fa_nil)) fa_nil)) (fg_nm (is := SI_law_stand) 2 S_law_stand.nd ST_law_stand)
      (fss_cons (fs_st (is := SI_law_stand) 3 S_law_stand.nd ST_law_stand (fe_tup (fa_cons (fe_ix (hu_of hr) (fe_ix (hu_of hr) (fe_vr (is := VI_law_stand) 1 V_law_stand) (fe_vr (is := VI_law_stand) 2 V_law_stand)) fe_int) (fa_cons (fe_ix (hu_of hr) (fe_ix (hu_of hr) (fe_vr (is := VI_law_stand) 1 V_law_stand) (fe_vr (is := VI_law_stand) 2 V_law_stand)) fe_int) (fa_cons (fe_ix (hu_of hr) (fe_ix (hu_of hr) (fe_vr (is := VI_law_stand) 1 V_law_stand) (fe_vr (is := VI_law_stand) 2 V_law_stand)) fe_int) (fa_cons (fe_ix (hu_of hr) (fe_ix (hu_of hr) (fe_vr (is := VI_law_stand) 1 V_law_stand) (fe_vr (is := VI_law_stand) 2 V_law_stand)) fe_int) (fa_cons (fe_ix (hu_of hr) (fe_ix (hu_of hr) (fe_vr (is := VI_law_stand) 1 V_law_stand) (fe_vr (is := VI_law_stand) 2 V_law_stand)) fe_int) (fa_cons (fe_ix (hu_of hr) (fe_ix (hu_of hr) (fe_vr (is := VI_law_stand) 1 V_law_stand) (fe_vr (is := VI_law_stand) 2 V_law_stand)) fe_int) (fa_cons (fe_ix (hu_of hr) (fe_ix (hu_of hr) (fe_vr (is := VI_law_stand) 1 V_law_stand) (fe_vr (is := VI_law_stand) 2 V_law_stand)) fe_int) (fa_cons (fe_ix (hu_of hr) (fe_ix (hu_of hr) (fe_vr (is := VI_law_stand) 1 V_law_stand) (fe_vr (is := VI_law_stand) 2 V_law_stand)) fe_int) (fa_cons (fe_ix (hu_of hr) (fe_ix (hu_of hr) (fe_vr (is := VI_law_stand) 1 V_law_stand) (fe_vr (is := VI_law_stand) 2 V_law_stand)) fe_int) fa_nil)))))))))))
    (fss_cons (fs_st (is := SI_law_stand) 4 S_law_stand.nd ST_law_stand (fe_meth (c := 9) (bad := none) (FnR.cal (f_Orders_order T) (hr.mono (by decide))) (cl_Orders T) (mt_Orders_order T) inj (bad_order) takesD (fe_vr (is := VI_law_stand) 0 V_law_stand) (fa_cons (fe_op of_add (fe_vr (is := VI_law_stand) 2 V_law_stand) fe_int) fa_nil)))
    (fss_cons (fs_if (ft_not (ft_tru (fe_ca (FnR.cal (f_law_same T 8) (hr.mono (by decide))) (glx (L := GL_law_stand) (j := 0) G_law_stand rfl) (g__law_same T) takesD (fa_cons (fe_vr (is := VI_law_stand) 4 V_law_stand) (fa_cons (fe_vr (is := VI_law_stand) 3 V_law_stand) fa_nil))))) (fss_one (fs_ret fe_bl)) fss_nil)
    (fss_one (fs_expr (fe_append (fe_ix (hu_of hr) (fe_vr (is := VI_law_stand) 4 V_law_stand) fe_int) (fa_cons fe_str fa_nil))))))))
    (fss_one (fs_ret fe_bl)))
def N_law : List Str := ["_law_script", "_law_numbers_here", "_law_users_here", "_law_orders", "_law_roles", "_law_k", "_law_rule", "_law_dues", "_law_cell", "_law_row", "_law_menu", "_law_what", "_law_by", "_law_number", "_law_day", "_law_due_here"]
theorem S_law : FnScope N_law ["_law_script"] (defScope (top 38)) := ⟨rfl, rfl, rfl, by decide +kernel, rfl, by decide +kernel, by decide +kernel⟩
def VI_law : List Nat := [0, 1, 2, 3, 4, 5, 6, 7, 8, 9, 10, 11, 12, 13, 14, 15]
theorem V_law : visI (defScope (top 38)) N_law VI_law = true := by decide +kernel
def SI_law : List Nat := [1, 2, 3, 4, 5, 6, 7, 8, 9, 10, 11, 12, 13, 14, 15]
theorem ST_law : stoI (defScope (top 38)) (fun _ => true) N_law SI_law = true := by decide +kernel
def GL_law : List Str := ["_law_numbers", "len", "_law_users", "Orders", "int", "range", "_law_placed", "_law_due", "_law_call", "_law_same", "_law_stand"]
theorem G_law : glI (defScope (top 38)) GL_law = true := by decide +kernel
theorem fo_law (T : TX K mg) {fd : FuncData} (F : FunD K d_law.name d_law.qual d_law.params d_law.body d_law.scope [] [] (He.ga K "law") fd) : FnOk P w K mg base (L2N.CX P w) 11 (He.ga K "law") fd ["_law_script"] (spF K (tg K) m_law) := by
  refine fnO (N := N_law) (ps := ["_law_script"]) (k := 10) (mb := b_law) F S_law (fun cdv A outer s H E hr => ?_)
  exact (fss_cons (fs_st (is := SI_law) 1 S_law.nd ST_law (fe_ca (FnR.cal (f_law_numbers T) (hr.mono (by decide))) (glx (L := GL_law) (j := 0) G_law rfl) (g__law_numbers T) takesD (fa_cons fe_int (fa_cons fe_int fa_nil))))
    (fss_cons (fs_if (ft_cmp of_gt (fe_bb bt_len cf_len (glx (L := GL_law) (j := 1) G_law rfl) (g_len T) (fa_cons (fe_vr (is := VI_law) 0 V_law) fa_nil)) fe_int rfl) (fss_one (fs_st (is := SI_law) 1 S_law.nd ST_law (fe_ca (FnR.cal (f_law_numbers T) (hr.mono (by decide))) (glx (L := GL_law) (j := 0) G_law rfl) (g__law_numbers T) takesD (fa_cons (fe_ix (hu_of hr) (fe_vr (is := VI_law) 0 V_law) fe_int) (fa_cons fe_int fa_nil))))) fss_nil)
    (fss_cons (fs_st (is := SI_law) 2 S_law.nd ST_law (fe_ca (FnR.cal (f_law_users T) (hr.mono (by decide))) (glx (L := GL_law) (j := 2) G_law rfl) (g__law_users T) takesD (fa_cons (fe_vr (is := VI_law) 1 V_law) fa_nil)))
    (fss_cons (fs_st (is := SI_law) 3 S_law.nd ST_law (fe_mk0 (c := 9) (mk_Orders T) (f_Orders_init T) (hr.mono (by decide)) takesD (glx (L := GL_law) (j := 3) G_law rfl) (g_Orders T)))
    (fss_cons (fs_st (is := SI_law) 4 S_law.nd ST_law fe_dct0)
    (fss_cons (fs_for passD rfl (fi_rng1 (glx (L := GL_law) (j := 5) G_law rfl).gl (g_range T) (fa_cons fe_int fa_nil)) (fg_nm (is := SI_law) 5 S_law.nd ST_law)
      (fss_cons (fs_sub (hu_of hr) (fe_vr (is := VI_law) 4 V_law) (fe_ix (hu_of hr) (fe_vr (is := VI_law) 2 V_law) (fe_vr (is := VI_law) 5 V_law)) (fe_ix (hu_of hr) (fe_tup (fa_cons fe_str (fa_cons fe_str (fa_cons fe_str (fa_cons fe_str fa_nil))))) (fe_op of_mod (fe_bt bt_int cf_int (glx (L := GL_law) (j := 4) G_law rfl) (g_int T) (fa_cons (fe_ix (hu_of hr) (fe_vr (is := VI_law) 1 V_law) (fe_op of_add fe_int (fe_vr (is := VI_law) 5 V_law))) fa_nil)) fe_int)))
    (fss_one (fs_expr (fe_meth (c := 9) (bad := none) (FnR.cal (f_Orders_add_user T) (hr.mono (by decide))) (cl_Orders T) (mt_Orders_add_user T) inj (bad_add_user) takesD (fe_vr (is := VI_law) 3 V_law) (fa_cons (fe_ix (hu_of hr) (fe_vr (is := VI_law) 2 V_law) (fe_vr (is := VI_law) 5 V_law)) (fa_cons (fe_ix (hu_of hr) (fe_vr (is := VI_law) 4 V_law) (fe_ix (hu_of hr) (fe_vr (is := VI_law) 2 V_law) (fe_vr (is := VI_law) 5 V_law))) fa_nil)))))))
    (fss_cons (fs_st (is := SI_law) 6 S_law.nd ST_law (fe_tup (fa_cons (fe_op of_mod (fe_bt bt_int cf_int (glx (L := GL_law) (j := 4) G_law rfl) (g_int T) (fa_cons (fe_ix (hu_of hr) (fe_vr (is := VI_law) 1 V_law) fe_int) fa_nil)) fe_int) (fa_cons (fe_ix (hu_of hr) (fe_tup (fa_cons fe_str (fa_cons fe_str (fa_cons fe_str fa_nil)))) (fe_op of_mod (fe_bt bt_int cf_int (glx (L := GL_law) (j := 4) G_law rfl) (g_int T) (fa_cons (fe_ix (hu_of hr) (fe_vr (is := VI_law) 1 V_law) fe_int) fa_nil)) fe_int)) fa_nil))))
    (fss_cons (fs_expr (fe_meth (c := 9) (bad := none) (FnR.cal (f_Orders_set_rule T) (hr.mono (by decide))) (cl_Orders T) (mt_Orders_set_rule T) inj (bad_set_rule) takesD (fe_vr (is := VI_law) 3 V_law) (fa_cons fe_str (fa_cons (fe_lst (fa_cons (fe_tup (fa_cons fe_int (fa_cons (fe_ix (hu_of hr) (fe_vr (is := VI_law) 6 V_law) fe_int) (fa_cons (fe_ix (hu_of hr) (fe_vr (is := VI_law) 6 V_law) fe_int) fa_nil)))) fa_nil)) fa_nil))))
    (fss_cons (fs_st (is := SI_law) 7 S_law.nd ST_law (fe_lst fa_nil))
    (fss_cons (fs_for passD rfl (fi_seq (fe_op of_add (fe_lst (fa_cons fe_int fa_nil)) (fe_sl (fe_vr (is := VI_law) 0 V_law) fo_none (fo_some fe_int)))) (fg_nm (is := SI_law) 8 S_law.nd ST_law)
      (fss_cons (fs_st (is := SI_law) 9 S_law.nd ST_law (fe_ca (FnR.cal (f_law_numbers T) (hr.mono (by decide))) (glx (L := GL_law) (j := 0) G_law rfl) (g__law_numbers T) takesD (fa_cons (fe_vr (is := VI_law) 8 V_law) (fa_cons fe_int fa_nil))))
    (fss_cons (fs_if (PW.pt (fw_or (ft_cmp (of_eq (hr.units)) (fe_op of_mod (fe_bt bt_int cf_int (glx (L := GL_law) (j := 4) G_law rfl) (g_int T) (fa_cons (fe_ix (hu_of hr) (fe_vr (is := VI_law) 9 V_law) fe_int) fa_nil)) fe_int) fe_int rfl) (fw_or1 (ft_not (ft_tru (fe_vr (is := VI_law) 7 V_law)))))) (fss_cons (fs_if (ft_cmp (of_eq (hr.units)) (fe_op of_mod (fe_bt bt_int cf_int (glx (L := GL_law) (j := 4) G_law rfl) (g_int T) (fa_cons (fe_ix (hu_of hr) (fe_vr (is := VI_law) 9 V_law) fe_int) fa_nil)) fe_int) fe_int rfl) (fss_cons (fs_st (is := SI_law) 6 S_law.nd ST_law (fe_tup (fa_cons (fe_op of_mod (fe_bt bt_int cf_int (glx (L := GL_law) (j := 4) G_law rfl) (g_int T) (fa_cons (fe_ix (hu_of hr) (fe_vr (is := VI_law) 9 V_law) fe_int) fa_nil)) fe_int) (fa_cons (fe_ix (hu_of hr) (fe_tup (fa_cons fe_str (fa_cons fe_str (fa_cons fe_str fa_nil)))) (fe_op of_mod (fe_bt bt_int cf_int (glx (L := GL_law) (j := 4) G_law rfl) (g_int T) (fa_cons (fe_ix (hu_of hr) (fe_vr (is := VI_law) 9 V_law) fe_int) fa_nil)) fe_int)) fa_nil))))
    (fss_one (fs_expr (fe_meth (c := 9) (bad := none) (FnR.cal (f_Orders_set_rule T) (hr.mono (by decide))) (cl_Orders T) (mt_Orders_set_rule T) inj (bad_set_rule) takesD (fe_vr (is := VI_law) 3 V_law) (fa_cons fe_str (fa_cons (fe_lst (fa_cons (fe_tup (fa_cons fe_int (fa_cons (fe_ix (hu_of hr) (fe_vr (is := VI_law) 6 V_law) fe_int) (fa_cons (fe_ix (hu_of hr) (fe_vr (is := VI_law) 6 V_law) fe_int) fa_nil)))) fa_nil)) fa_nil)))))) fss_nil)
    (fss_one (fs_if (ft_not (ft_tru (fe_ca (FnR.cal (f_law_placed T) (hr.mono (by decide))) (glx (L := GL_law) (j := 6) G_law rfl) (g__law_placed T) takesD (fa_cons (fe_vr (is := VI_law) 3 V_law) (fa_cons (fe_vr (is := VI_law) 7 V_law) (fa_cons (fe_vr (is := VI_law) 9 V_law) (fa_cons (fe_vr (is := VI_law) 2 V_law) (fa_cons (fe_vr (is := VI_law) 6 V_law) fa_nil)))))))) (fss_one (fs_ret fe_bl)) fss_nil))) fss_nil)
    (fss_cons (fs_st (is := SI_law) 10 S_law.nd ST_law (fe_tup (fa_cons fe_str (fa_cons fe_str (fa_cons fe_str (fa_cons fe_str (fa_cons fe_str (fa_cons fe_str (fa_cons fe_str (fa_cons fe_str (fa_cons fe_str fa_nil)))))))))))
    (fss_cons (fs_st (is := SI_law) 11 S_law.nd ST_law (fe_ix (hu_of hr) (fe_vr (is := VI_law) 10 V_law) (fe_op of_mod (fe_bt bt_int cf_int (glx (L := GL_law) (j := 4) G_law rfl) (g_int T) (fa_cons (fe_ix (hu_of hr) (fe_vr (is := VI_law) 9 V_law) fe_int) fa_nil)) fe_int)))
    (fss_cons (fs_st (is := SI_law) 12 S_law.nd ST_law (fe_ix (hu_of hr) (fe_vr (is := VI_law) 2 V_law) (fe_op of_mod (fe_bt bt_int cf_int (glx (L := GL_law) (j := 4) G_law rfl) (g_int T) (fa_cons (fe_ix (hu_of hr) (fe_vr (is := VI_law) 9 V_law) fe_int) fa_nil)) fe_int)))
    (fss_cons (fs_st (is := SI_law) 13 S_law.nd ST_law (fe_op of_add fe_int (fe_op of_mod (fe_bt bt_int cf_int (glx (L := GL_law) (j := 4) G_law rfl) (g_int T) (fa_cons (fe_ix (hu_of hr) (fe_vr (is := VI_law) 9 V_law) fe_int) fa_nil)) (fe_bb bt_len cf_len (glx (L := GL_law) (j := 1) G_law rfl) (g_len T) (fa_cons (fe_vr (is := VI_law) 7 V_law) fa_nil)))))
    (fss_cons (fs_if (ft_cmp (of_eq (hr.units)) (fe_op of_mod (fe_bt bt_int cf_int (glx (L := GL_law) (j := 4) G_law rfl) (g_int T) (fa_cons (fe_ix (hu_of hr) (fe_vr (is := VI_law) 9 V_law) fe_int) fa_nil)) fe_int) fe_int rfl) (fss_one (fs_st (is := SI_law) 13 S_law.nd ST_law (fe_ix (hu_of hr) (fe_tup (fa_cons fe_int (fa_cons (fe_op of_add (fe_bb bt_len cf_len (glx (L := GL_law) (j := 1) G_law rfl) (g_len T) (fa_cons (fe_vr (is := VI_law) 7 V_law) fa_nil)) fe_int) (fa_cons (fe_op of_sub fe_int fe_int) fa_nil)))) (fe_op of_mod (fe_bt bt_int cf_int (glx (L := GL_law) (j := 4) G_law rfl) (g_int T) (fa_cons (fe_ix (hu_of hr) (fe_vr (is := VI_law) 9 V_law) fe_int) fa_nil)) fe_int)))) fss_nil)
    (fss_cons (fs_if (PW.pt (fw_and (ft_cmp (of_eq (hr.units)) (fe_vr (is := VI_law) 11 V_law) fe_str rfl) (fw_and1 (ft_cmp (of_eq (hr.units)) (fe_op of_mod (fe_bt bt_int cf_int (glx (L := GL_law) (j := 4) G_law rfl) (g_int T) (fa_cons (fe_ix (hu_of hr) (fe_vr (is := VI_law) 9 V_law) fe_int) fa_nil)) fe_int) fe_int rfl)))) (fss_one (fs_st (is := SI_law) 12 S_law.nd ST_law (fe_ix (hu_of hr) (fe_ix (hu_of hr) (fe_vr (is := VI_law) 7 V_law) (fe_op of_mod (fe_bt bt_int cf_int (glx (L := GL_law) (j := 4) G_law rfl) (g_int T) (fa_cons (fe_ix (hu_of hr) (fe_vr (is := VI_law) 9 V_law) fe_int) fa_nil)) (fe_bb bt_len cf_len (glx (L := GL_law) (j := 1) G_law rfl) (g_len T) (fa_cons (fe_vr (is := VI_law) 7 V_law) fa_nil)))) fe_int))) fss_nil)
    (fss_cons (fs_st (is := SI_law) 14 S_law.nd ST_law (fe_op of_mod (fe_bt bt_int cf_int (glx (L := GL_law) (j := 4) G_law rfl) (g_int T) (fa_cons (fe_ix (hu_of hr) (fe_vr (is := VI_law) 9 V_law) fe_int) fa_nil)) fe_int))
    (fss_cons (fs_if (ft_cmp (of_eq (hr.units)) (fe_op of_mod (fe_bt bt_int cf_int (glx (L := GL_law) (j := 4) G_law rfl) (g_int T) (fa_cons (fe_ix (hu_of hr) (fe_vr (is := VI_law) 9 V_law) fe_int) fa_nil)) fe_int) fe_int rfl) (fss_one (fs_st (is := SI_law) 14 S_law.nd ST_law (fe_ix (hu_of hr) (fe_tup (fa_cons (fe_op of_sub fe_int fe_int) (fa_cons (fe_op of_sub fe_int fe_int) (fa_cons fe_int (fa_cons fe_int fa_nil))))) (fe_op of_mod (fe_bt bt_int cf_int (glx (L := GL_law) (j := 4) G_law rfl) (g_int T) (fa_cons (fe_ix (hu_of hr) (fe_vr (is := VI_law) 9 V_law) fe_int) fa_nil)) fe_int)))) fss_nil)
    (fss_cons (fs_st (is := SI_law) 15 S_law.nd ST_law (fe_ca (FnR.cal (f_law_due T) (hr.mono (by decide))) (glx (L := GL_law) (j := 7) G_law rfl) (g__law_due T) takesD (fa_cons (fe_vr (is := VI_law) 7 V_law) (fa_cons (fe_vr (is := VI_law) 11 V_law) (fa_cons (fe_vr (is := VI_law) 12 V_law) (fa_cons (fe_vr (is := VI_law) 13 V_law) (fa_cons (fe_vr (is := VI_law) 14 V_law) (fa_cons (fe_vr (is := VI_law) 4 V_law) fa_nil))))))))
    (fss_cons (fs_if (ft_not (ft_tru (fe_ca (FnR.cal (f_law_same T 8) (hr.mono (by decide))) (glx (L := GL_law) (j := 9) G_law rfl) (g__law_same T) takesD (fa_cons (fe_ca (FnR.cal (f_law_call T) (hr.mono (by decide))) (glx (L := GL_law) (j := 8) G_law rfl) (g__law_call T) takesD (fa_cons (fe_vr (is := VI_law) 3 V_law) (fa_cons (fe_vr (is := VI_law) 11 V_law) (fa_cons (fe_vr (is := VI_law) 12 V_law) (fa_cons (fe_vr (is := VI_law) 13 V_law) (fa_cons (fe_vr (is := VI_law) 14 V_law) fa_nil)))))) (fa_cons (fe_vr (is := VI_law) 15 V_law) fa_nil))))) (fss_one (fs_ret fe_bl)) fss_nil)
    (fss_one (fs_if (ft_not (ft_tru (fe_ca (FnR.cal (f_law_stand T) (hr.mono (by decide))) (glx (L := GL_law) (j := 10) G_law rfl) (g__law_stand T) takesD (fa_cons (fe_vr (is := VI_law) 3 V_law) (fa_cons (fe_vr (is := VI_law) 7 V_law) fa_nil))))) (fss_one (fs_ret fe_bl)) fss_nil)))))))))))))))
    (fss_one (fs_ret fe_bl))))))))))))
end
/-! ### the head -/
def nm0 : List PySem.Str := ["_wall", "BankError", "BadValue", "BadDay", "Missing", "Refused", "Full", "NotAllowed", "Damaged", "LIMIT", "is_amount", "LAST_DAY", "is_day", "ROLES", "LETTERS", "DIGITS", "MOST_ORDERS", "is_name", "check_name", "check_rule", "Order", "Orders", "_law_numbers", "_law_class", "_law_name"]
def nm1 : List PySem.Str := ["_law_other", "_law_same", "_law_users", "_law_call", "_law_decides", "_law_due", "_law_placed", "_law_stand"]
def nm : List PySem.Str := nm0 ++ nm1
abbrev exB (K : PySem.W.Frag) : Bool := fx.all fun f => f.ok K
abbrev R : PySem.W.OpenRow := PySem.W.OpenLaw.row PySem.Challenge.rw_corebank_k50_grants_of_an_order
abbrev hk : PySem.W.Hook := He.hookX 5 fa fn [] [] (fun K => fx.all fun f => f.ok K)
def ob (s : PySem.W.SharedT) : He.AlX := He.obsX 5 fa fn [] [] (fun K => fx.all fun f => f.ok K) (HandSHeadRun.getT s)
theorem ob_eq (s : PySem.W.SharedT) : ob s = hk.obs s.abs := He.obsX_eq (HandSHeadRun.getT_eq s)
theorem run (w : World) : HandSHeadRun.RunEq R (PySem.W.view R.prog [38]) hk ob 8000 nm w := by
  intro os
  kernel_rfl
end Lw
/-! general words of the calculus that k52, k53 keep in Q53e, Q53h; later laws take this text instead -/
namespace Mi
open PySem PySem.Spec PyProof.Rows L2
theorem w_tryAs {sb : Nat → Option Bool} {i : Nat} {mb : Sm} {hm : Nat → Sm} {env : Ev} {G : Gh} {q : Pq} : (sTryAs sb i mb hm env G).sat q ↔ (mb env G).sat ⟨q.nx, q.rt, fun c e G1 => match sb c with
    | some true => i < e.length ∧ ((hm c e G1).clr i).sat q
    | some false => q.er c e G1
    | none => False, q.bk, q.ct⟩ := by
  unfold sTryAs
  cases mb env G with
  | er c e G1 =>
    show Ro.sat _ q ↔ (match sb c with
      | some true => i < e.length ∧ ((hm c e G1).clr i).sat q
      | some false => q.er c e G1
      | none => False)
    dsimp only
    cases sb c with
    | none => exact Iff.rfl
    | some b =>
      cases b with
      | false => exact Iff.rfl
      | true =>
        dsimp only
        split
        · rename_i h; exact ⟨fun k => ⟨h, k⟩, fun k => k.2⟩
        · rename_i h; exact ⟨fun k => k.elim, fun k => h k.1⟩
  | _ => exact Iff.rfl
theorem w_isE {c : Nat} {tab : List (Nat × Bool)} {r : Ev} {G : Gh} {Q : D → Gh → Prop} {E : Nat → Gh → Prop} : (eIsE 0 0 c tab (some (.exc 0) :: r) G).sat Q E ↔ opB (sbOf tab c) fun b => Q (.bl b) G := by
  unfold eIsE
  dsimp only [List.getElem?_cons_zero]
  rw [if_pos rfl]
  cases sbOf tab c <;> exact Iff.rfl
def lstQ (o : Ob) (Q : List D → Prop) : Prop := match o with
  | .lst xs => Q xs
  | _ => False
theorem lstQ_of {o : Ob} {xs : List D} {Q : List D → Prop} (h : o = .lst xs) (k : Q xs) : lstQ o Q := by subst h; exact k
theorem w_lc {mi : Ev → M Im} {t : Tm} {nt : Ev → M Bool} {me : Ev → M D} {vs : List Nat} {env : Ev} {G : Gh} {Q : D → Gh → Prop} {E : Nat → Gh → Prop} : (eLc mi t nt me vs env G).sat Q E ↔ (mi env G).sat (fun it G1 => (loopC it t nt me G1.n (wipeE env vs) it.n 0 (G1.push (.lst []))).sat Q E) E := w_bind
theorem lc_sat {it : Im} {t : Tm} {nt : Ev → M Bool} {me : Ev → M D} {l : Nat} {env0 : Ev} {xs : List D} {Q : D → Gh → Prop} {E : Nat → Gh → Prop} (P : Nat → Gh → Prop) (hit : ∀ i G, i ≤ xs.length → P i G → it.at_ i G = some xs[i]?)
    (turn : ∀ i d G, xs[i]? = some d → P i G → evQ (t d G env0) fun e1 => (nt e1 G).sat (fun b G2 => if b = true then (me e1 G2).sat (fun y G3 => lstQ (G3.ob l) fun acc => acc.length < sizeLine ∧ P (i + 1) (G3.set l (.lst (acc ++ [y])))) nE else P (i + 1) G2) nE)
    (done : ∀ G, P xs.length G → Q (.ref l) G) : ∀ (n i : Nat) (G : Gh), n + i = xs.length → P i G → (loopC it t nt me l env0 n i G).sat Q E := by
  intro n
  induction n with
  | zero =>
    intro i G hn p
    have hi : i = xs.length := by omega
    subst hi
    rw [loopC, hit _ G (Nat.le_refl _) p, List.getElem?_eq_none (Nat.le_refl _)]
    exact done G p
  | succ n ih =>
    intro i G hn p
    have hi : i < xs.length := by omega
    rw [loopC, hit i G (by omega) p, List.getElem?_eq_getElem hi]
    dsimp only
    have k := turn i xs[i] G (List.getElem?_eq_getElem hi) p
    cases z : t xs[i] G env0 with
    | none => rw [z] at k; exact k.elim
    | some e1 =>
      rw [z] at k
      have k : (nt e1 G).sat _ nE := k
      dsimp only
      cases z2 : nt e1 G with
      | er c G2 => rw [z2] at k; exact k.elim
      | no => rw [z2] at k; exact k.elim
      | ok b G2 =>
        rw [z2] at k
        have k := w_ok.mp k
        cases b with
        | false =>
          rw [if_neg Bool.false_ne_true] at k
          exact ih (i + 1) G2 (by omega) k
        | true =>
          rw [if_pos rfl] at k
          dsimp only
          cases z3 : me e1 G2 with
          | er c G3 => rw [z3] at k; exact k.elim
          | no => rw [z3] at k; exact k.elim
          | ok y G3 =>
            rw [z3] at k
            have k := w_ok.mp k
            dsimp only
            cases z4 : G3.ob l with
            | lst acc =>
              rw [z4] at k
              obtain ⟨k1, k2⟩ := k
              dsimp only
              rw [if_pos k1]
              exact ih (i + 1) _ (by omega) k2
            | _ => rw [z4] at k; exact k.elim
end Mi
namespace Lw
open PySem PySem.Spec PyProof.Rows L2 Mi
theorem is_day_eq (n : Int) (G : Gh) : m_is_day [.int n] G = .ok (.bl (decide (0 ≤ n) && decide (n ≤ 36524))) G := by
  apply eq_of_sat
  unfold m_is_day b_is_day
  rw [w_fun]
  refine ⟨rfl, ?_⟩
  simp only [w_ok, w_c, w_v, w_op, w_un, w_b, w_nil, w_cons, w_call, w_tup, w_lst, w_dct0, w_fld, w_meth, w_make, w_mt, w_get2, w_tru, w_asB, w_not, w_and, w_or, w_chain, w_andV, w_orV, w_notV, w_if, w_isi, w_pNone, w_pSome, w_sl, w_nx, w_brk, w_cnt, w_drop, w_ret, w_retN, w_sif, w_raise, gmN, gmT, gmAll, w_asg, w_sfld, w_ssub, w_saug, w_for, w_iseq, w_irng1, w_irng2, slotQ_some, opQ_some, opD_some, getQ_some, opB_some, blQ_bl, tyQ_some, inQ_int, evQ_some, ghQ_some, List.getElem?_cons_zero, List.getElem?_cons_succ, List.set_cons_zero, List.set_cons_succ, List.map_cons, List.map_nil, List.cons_append, List.nil_append, List.replicate, List.length_cons, List.length_nil, o_add, o_sub, o_lt, o_le, o_gt, o_ge, o_les, o_eq, o_ne, o_eqs, o_nes, o_eqb, o_neb, o_is, o_isNot, o_iadd, o_neg, b_int, b_min, b_max]
  by_cases h : 0 ≤ n <;> simp [h]
theorem cmulR {i j : Int} (h : -(2 ^ 64) < j ∧ j < 2 ^ 64) : CMul i j := .inr h
theorem cmulL {i j : Int} (h : -(2 ^ 64) < i ∧ i < 2 ^ 64) : CMul i j := .inl h
theorem pow18 {G : Gh} : opPow (.int 10) (.int 18) G = some (.int 1000000000000000000, G) := rfl
abbrev qok (Q : D → Gh → Prop) : Pq := ⟨fun _ G1 => Q .non G1, Q, fun _ _ _ => False, fun _ _ => False, fun _ _ => False⟩
theorem numbers_loop (cell : Int) (n : Nat) (hn : n ≤ 1000) (G : Gh) (seed rest : Int) (q : Pq) (hq : ∀ l : List Int, l.length = n → q.rt (.ref G.n) (G.push (.lst (l.map D.int)))) :
    (q_law_numbers_9 [some (.int cell), some (.int n), some (.int seed), some (.int rest), some (.ref G.n), none, none] (G.push (.lst []))).sat q := by
  rw [q_law_numbers_9, w_seq]; simp only [w_ok, w_c, w_v, w_op, w_un, w_b, w_nil, w_cons, w_call, w_tup, w_lst, w_dct0, w_fld, w_meth, w_make, w_mt, w_get2, w_tru, w_asB, w_not, w_and, w_or, w_chain, w_andV, w_orV, w_notV, w_if, w_isi, w_pNone, w_pSome, w_sl, w_nx, w_brk, w_cnt, w_drop, w_ret, w_retN, w_sif, w_raise, gmN, gmT, gmAll, w_asg, w_sfld, w_ssub, w_saug, w_for, w_iseq, w_irng1, w_irng2, slotQ_some, opQ_some, opD_some, getQ_some, opB_some, blQ_bl, tyQ_some, inQ_int, evQ_some, ghQ_some, List.getElem?_cons_zero, List.getElem?_cons_succ, List.set_cons_zero, List.set_cons_succ, List.map_cons, List.map_nil, List.cons_append, List.nil_append, List.replicate, List.length_cons, List.length_nil, o_add, o_sub, o_lt, o_le, o_gt, o_ge, o_les, o_eq, o_ne, o_eqs, o_nes, o_eqb, o_neb, o_is, o_isNot, o_iadd, o_neg, b_int, b_min, b_max, rng1]
  refine rng_sat ⟨by omega⟩ (fun k e G' => ∃ (l : List Int) (r : Int) (y z : Option D), l.length = k ∧ e = [some (.int cell), some (.int n), some (.int seed), some (.int r), some (.ref G.n), y, z] ∧ G' = G.push (.lst (l.map D.int))) ⟨[], rest, none, none, rfl, rfl, rfl⟩ ?_ ?_
  · rintro k e G' hk ⟨l, r, y, z, hl, rfl, rfl⟩
    have ho : (G.push (.lst (l.map D.int))).ob G.n = .lst (l.map D.int) := ob_push_same _ _
    have hz : (l.map D.int).length < sizeLine := sz2 (by rw [List.length_map]; omega)
    have fin : ∀ (x r : Int) (y z : Option D), ∃ (l' : List Int) (r' : Int) (y' z' : Option D), l'.length = k + 1 ∧ ([some (.int cell), some (.int n), some (.int seed), some (.int r), some (.ref G.n), y, z] : Ev) = [some (.int cell), some (.int n), some (.int seed), some (.int r'), some (.ref G.n), y', z'] ∧
        (G.push (.lst (l.map D.int))).set G.n (.lst (l.map D.int ++ [.int x])) = G.push (.lst (l'.map D.int)) := fun x r y z =>
      ⟨l ++ [x], r, y, z, by simp [hl], rfl, by rw [push_set, List.map_append]; rfl⟩
    simp only [w_ok, w_c, w_v, w_op, w_un, w_b, w_nil, w_cons, w_call, w_tup, w_lst, w_dct0, w_fld, w_meth, w_make, w_mt, w_get2, w_tru, w_asB, w_not, w_and, w_or, w_chain, w_andV, w_orV, w_notV, w_if, w_isi, w_pNone, w_pSome, w_sl, w_nx, w_brk, w_cnt, w_drop, w_ret, w_retN, w_sif, w_raise, gmN, gmT, gmAll, w_asg, w_sfld, w_ssub, w_saug, w_for, w_iseq, w_irng1, w_irng2, slotQ_some, opQ_some, opD_some, getQ_some, opB_some, blQ_bl, tyQ_some, inQ_int, evQ_some, ghQ_some, List.getElem?_cons_zero, List.getElem?_cons_succ, List.set_cons_zero, List.set_cons_succ, List.map_cons, List.map_nil, List.cons_append, List.nil_append, List.replicate, List.length_cons, List.length_nil, o_add, o_sub, o_lt, o_le, o_gt, o_ge, o_les, o_eq, o_ne, o_eqs, o_nes, o_eqb, o_neb, o_is, o_isNot, o_iadd, o_neg, b_int, b_min, b_max]
    split
    · rw [q_law_numbers_1, w_seq]; simp only [w_ok, w_c, w_v, w_op, w_un, w_b, w_nil, w_cons, w_call, w_tup, w_lst, w_dct0, w_fld, w_meth, w_make, w_mt, w_get2, w_tru, w_asB, w_not, w_and, w_or, w_chain, w_andV, w_orV, w_notV, w_if, w_isi, w_pNone, w_pSome, w_sl, w_nx, w_brk, w_cnt, w_drop, w_ret, w_retN, w_sif, w_raise, gmN, gmT, gmAll, w_asg, w_sfld, w_ssub, w_saug, w_for, w_iseq, w_irng1, w_irng2, slotQ_some, opQ_some, opD_some, getQ_some, opB_some, blQ_bl, tyQ_some, inQ_int, evQ_some, ghQ_some, List.getElem?_cons_zero, List.getElem?_cons_succ, List.set_cons_zero, List.set_cons_succ, List.map_cons, List.map_nil, List.cons_append, List.nil_append, List.replicate, List.length_cons, List.length_nil, o_add, o_sub, o_lt, o_le, o_gt, o_ge, o_les, o_eq, o_ne, o_eqs, o_nes, o_eqb, o_neb, o_is, o_isNot, o_iadd, o_neg, b_int, b_min, b_max, isLst_of ho, m_append ho hz, true_and, o_mod (show (0 : Int) < 4000000007 by decide), o_fdiv (show (0 : Int) < 4000000007 ∧ _ by decide)]
      exact fin _ _ _ _
    · rw [q_law_numbers_2, w_seq]; simp only [w_ok, w_c, w_v, w_op, w_un, w_b, w_nil, w_cons, w_call, w_tup, w_lst, w_dct0, w_fld, w_meth, w_make, w_mt, w_get2, w_tru, w_asB, w_not, w_and, w_or, w_chain, w_andV, w_orV, w_notV, w_if, w_isi, w_pNone, w_pSome, w_sl, w_nx, w_brk, w_cnt, w_drop, w_ret, w_retN, w_sif, w_raise, gmN, gmT, gmAll, w_asg, w_sfld, w_ssub, w_saug, w_for, w_iseq, w_irng1, w_irng2, slotQ_some, opQ_some, opD_some, getQ_some, opB_some, blQ_bl, tyQ_some, inQ_int, evQ_some, ghQ_some, List.getElem?_cons_zero, List.getElem?_cons_succ, List.set_cons_zero, List.set_cons_succ, List.map_cons, List.map_nil, List.cons_append, List.nil_append, List.replicate, List.length_cons, List.length_nil, o_add, o_sub, o_lt, o_le, o_gt, o_ge, o_les, o_eq, o_ne, o_eqs, o_nes, o_eqb, o_neb, o_is, o_isNot, o_iadd, o_neg, b_int, b_min, b_max, o_mod (show (0 : Int) < 2147483647 by decide), o_mul (cmulR (show -(2 ^ 64) < (48271 : Int) ∧ _ by decide)), o_mul (cmulR (show -(2 ^ 64) < (69621 : Int) ∧ _ by decide))]
      rw [q_law_numbers_3, w_seq]; simp only [w_ok, w_c, w_v, w_op, w_un, w_b, w_nil, w_cons, w_call, w_tup, w_lst, w_dct0, w_fld, w_meth, w_make, w_mt, w_get2, w_tru, w_asB, w_not, w_and, w_or, w_chain, w_andV, w_orV, w_notV, w_if, w_isi, w_pNone, w_pSome, w_sl, w_nx, w_brk, w_cnt, w_drop, w_ret, w_retN, w_sif, w_raise, gmN, gmT, gmAll, w_asg, w_sfld, w_ssub, w_saug, w_for, w_iseq, w_irng1, w_irng2, slotQ_some, opQ_some, opD_some, getQ_some, opB_some, blQ_bl, tyQ_some, inQ_int, evQ_some, ghQ_some, List.getElem?_cons_zero, List.getElem?_cons_succ, List.set_cons_zero, List.set_cons_succ, List.map_cons, List.map_nil, List.cons_append, List.nil_append, List.replicate, List.length_cons, List.length_nil, o_add, o_sub, o_lt, o_le, o_gt, o_ge, o_les, o_eq, o_ne, o_eqs, o_nes, o_eqb, o_neb, o_is, o_isNot, o_iadd, o_neg, b_int, b_min, b_max, o_mod (show (0 : Int) < 46337 by decide), o_fdiv (show (0 : Int) < 46337 ∧ _ by decide), o_mul (cmulL (show -(2 ^ 64) < (3 : Int) ∧ _ by decide))]
      rw [o_mul (cmulL (by omega))]
      simp only [w_ok, w_c, w_v, w_op, w_un, w_b, w_nil, w_cons, w_call, w_tup, w_lst, w_dct0, w_fld, w_meth, w_make, w_mt, w_get2, w_tru, w_asB, w_not, w_and, w_or, w_chain, w_andV, w_orV, w_notV, w_if, w_isi, w_pNone, w_pSome, w_sl, w_nx, w_brk, w_cnt, w_drop, w_ret, w_retN, w_sif, w_raise, gmN, gmT, gmAll, w_asg, w_sfld, w_ssub, w_saug, w_for, w_iseq, w_irng1, w_irng2, slotQ_some, opQ_some, opD_some, getQ_some, opB_some, blQ_bl, tyQ_some, inQ_int, evQ_some, ghQ_some, List.getElem?_cons_zero, List.getElem?_cons_succ, List.set_cons_zero, List.set_cons_succ, List.map_cons, List.map_nil, List.cons_append, List.nil_append, List.replicate, List.length_cons, List.length_nil, o_add, o_sub, o_lt, o_le, o_gt, o_ge, o_les, o_eq, o_ne, o_eqs, o_nes, o_eqb, o_neb, o_is, o_isNot, o_iadd, o_neg, b_int, b_min, b_max, isLst_of ho, m_append ho hz, true_and, o_mod (show (0 : Int) < 2147483629 by decide), o_fdiv (show (0 : Int) < 32 ∧ _ by decide), o_mul (cmulR (show -(2 ^ 64) < (16807 : Int) ∧ _ by decide))]
      exact fin _ _ _ _
  · rintro e G' ⟨l, r, y, z, hl, rfl, rfl⟩
    simp only [w_ok, w_c, w_v, w_op, w_un, w_b, w_nil, w_cons, w_call, w_tup, w_lst, w_dct0, w_fld, w_meth, w_make, w_mt, w_get2, w_tru, w_asB, w_not, w_and, w_or, w_chain, w_andV, w_orV, w_notV, w_if, w_isi, w_pNone, w_pSome, w_sl, w_nx, w_brk, w_cnt, w_drop, w_ret, w_retN, w_sif, w_raise, gmN, gmT, gmAll, w_asg, w_sfld, w_ssub, w_saug, w_for, w_iseq, w_irng1, w_irng2, slotQ_some, opQ_some, opD_some, getQ_some, opB_some, blQ_bl, tyQ_some, inQ_int, evQ_some, ghQ_some, List.getElem?_cons_zero, List.getElem?_cons_succ, List.set_cons_zero, List.set_cons_succ, List.map_cons, List.map_nil, List.cons_append, List.nil_append, List.replicate, List.length_cons, List.length_nil, o_add, o_sub, o_lt, o_le, o_gt, o_ge, o_les, o_eq, o_ne, o_eqs, o_nes, o_eqb, o_neb, o_is, o_isNot, o_iadd, o_neg, b_int, b_min, b_max]
    exact hq l (by rw [hl]; omega)
theorem numbers_eq (cell : Int) (n : Nat) (hn : n ≤ 1000) (G : Gh) : ∃ l : List Int, l.length = n ∧ m_law_numbers [.int cell, .int n] G = .ok (.ref G.n) (G.push (.lst (l.map D.int))) := by
  have key : (m_law_numbers [.int cell, .int n] G).sat (fun d G' => ∃ l : List Int, l.length = n ∧ d = .ref G.n ∧ G' = G.push (.lst (l.map D.int))) nE := by
    unfold m_law_numbers b_law_numbers
    rw [w_fun]
    refine ⟨rfl, ?_⟩
    have last : ∀ (seed rest : Int) (q : Pq), (∀ l : List Int, l.length = n → q.rt (.ref G.n) (G.push (.lst (l.map D.int)))) → (q_law_numbers_8 [some (.int cell), some (.int n), some (.int seed), some (.int rest), none, none, none] G).sat q := fun seed rest q hq => by
      rw [q_law_numbers_8, w_seq]; simp only [w_ok, w_c, w_v, w_op, w_un, w_b, w_nil, w_cons, w_call, w_tup, w_lst, w_dct0, w_fld, w_meth, w_make, w_mt, w_get2, w_tru, w_asB, w_not, w_and, w_or, w_chain, w_andV, w_orV, w_notV, w_if, w_isi, w_pNone, w_pSome, w_sl, w_nx, w_brk, w_cnt, w_drop, w_ret, w_retN, w_sif, w_raise, gmN, gmT, gmAll, w_asg, w_sfld, w_ssub, w_saug, w_for, w_iseq, w_irng1, w_irng2, slotQ_some, opQ_some, opD_some, getQ_some, opB_some, blQ_bl, tyQ_some, inQ_int, evQ_some, ghQ_some, List.getElem?_cons_zero, List.getElem?_cons_succ, List.set_cons_zero, List.set_cons_succ, List.map_cons, List.map_nil, List.cons_append, List.nil_append, List.replicate, List.length_cons, List.length_nil, o_add, o_sub, o_lt, o_le, o_gt, o_ge, o_les, o_eq, o_ne, o_eqs, o_nes, o_eqb, o_neb, o_is, o_isNot, o_iadd, o_neg, b_int, b_min, b_max, Nat.zero_le, true_and]
      exact numbers_loop cell n hn G seed rest q hq
    have mid : ∀ (seed : Int) (q : Pq), (∀ l : List Int, l.length = n → q.rt (.ref G.n) (G.push (.lst (l.map D.int)))) → (q_law_numbers_6 [some (.int cell), some (.int n), some (.int seed), none, none, none, none] G).sat q := fun seed q hq => by
      rw [q_law_numbers_6, w_seq]; simp only [w_ok, w_c, w_v, w_op, w_un, w_b, w_nil, w_cons, w_call, w_tup, w_lst, w_dct0, w_fld, w_meth, w_make, w_mt, w_get2, w_tru, w_asB, w_not, w_and, w_or, w_chain, w_andV, w_orV, w_notV, w_if, w_isi, w_pNone, w_pSome, w_sl, w_nx, w_brk, w_cnt, w_drop, w_ret, w_retN, w_sif, w_raise, gmN, gmT, gmAll, w_asg, w_sfld, w_ssub, w_saug, w_for, w_iseq, w_irng1, w_irng2, slotQ_some, opQ_some, opD_some, getQ_some, opB_some, blQ_bl, tyQ_some, inQ_int, evQ_some, ghQ_some, List.getElem?_cons_zero, List.getElem?_cons_succ, List.set_cons_zero, List.set_cons_succ, List.map_cons, List.map_nil, List.cons_append, List.nil_append, List.replicate, List.length_cons, List.length_nil, o_add, o_sub, o_lt, o_le, o_gt, o_ge, o_les, o_eq, o_ne, o_eqs, o_nes, o_eqb, o_neb, o_is, o_isNot, o_iadd, o_neg, b_int, b_min, b_max]
      rw [q_law_numbers_7, w_seq]; simp only [w_ok, w_c, w_v, w_op, w_un, w_b, w_nil, w_cons, w_call, w_tup, w_lst, w_dct0, w_fld, w_meth, w_make, w_mt, w_get2, w_tru, w_asB, w_not, w_and, w_or, w_chain, w_andV, w_orV, w_notV, w_if, w_isi, w_pNone, w_pSome, w_sl, w_nx, w_brk, w_cnt, w_drop, w_ret, w_retN, w_sif, w_raise, gmN, gmT, gmAll, w_asg, w_sfld, w_ssub, w_saug, w_for, w_iseq, w_irng1, w_irng2, slotQ_some, opQ_some, opD_some, getQ_some, opB_some, blQ_bl, tyQ_some, inQ_int, evQ_some, ghQ_some, List.getElem?_cons_zero, List.getElem?_cons_succ, List.set_cons_zero, List.set_cons_succ, List.map_cons, List.map_nil, List.cons_append, List.nil_append, List.replicate, List.length_cons, List.length_nil, o_add, o_sub, o_lt, o_le, o_gt, o_ge, o_les, o_eq, o_ne, o_eqs, o_nes, o_eqb, o_neb, o_is, o_isNot, o_iadd, o_neg, b_int, b_min, b_max, pow18]
      split <;> exact last _ _ q hq
    rw [q_law_numbers_4, w_seq]; simp only [w_ok, w_c, w_v, w_op, w_un, w_b, w_nil, w_cons, w_call, w_tup, w_lst, w_dct0, w_fld, w_meth, w_make, w_mt, w_get2, w_tru, w_asB, w_not, w_and, w_or, w_chain, w_andV, w_orV, w_notV, w_if, w_isi, w_pNone, w_pSome, w_sl, w_nx, w_brk, w_cnt, w_drop, w_ret, w_retN, w_sif, w_raise, gmN, gmT, gmAll, w_asg, w_sfld, w_ssub, w_saug, w_for, w_iseq, w_irng1, w_irng2, slotQ_some, opQ_some, opD_some, getQ_some, opB_some, blQ_bl, tyQ_some, inQ_int, evQ_some, ghQ_some, List.getElem?_cons_zero, List.getElem?_cons_succ, List.set_cons_zero, List.set_cons_succ, List.map_cons, List.map_nil, List.cons_append, List.nil_append, List.replicate, List.length_cons, List.length_nil, o_add, o_sub, o_lt, o_le, o_gt, o_ge, o_les, o_eq, o_ne, o_eqs, o_nes, o_eqb, o_neb, o_is, o_isNot, o_iadd, o_neg, b_int, b_min, b_max, o_mul (cmulL (show -(2 ^ 64) < (2 : Int) ∧ _ by decide))]
    rw [q_law_numbers_5, w_seq]; simp only [w_ok, w_c, w_v, w_op, w_un, w_b, w_nil, w_cons, w_call, w_tup, w_lst, w_dct0, w_fld, w_meth, w_make, w_mt, w_get2, w_tru, w_asB, w_not, w_and, w_or, w_chain, w_andV, w_orV, w_notV, w_if, w_isi, w_pNone, w_pSome, w_sl, w_nx, w_brk, w_cnt, w_drop, w_ret, w_retN, w_sif, w_raise, gmN, gmT, gmAll, w_asg, w_sfld, w_ssub, w_saug, w_for, w_iseq, w_irng1, w_irng2, slotQ_some, opQ_some, opD_some, getQ_some, opB_some, blQ_bl, tyQ_some, inQ_int, evQ_some, ghQ_some, List.getElem?_cons_zero, List.getElem?_cons_succ, List.set_cons_zero, List.set_cons_succ, List.map_cons, List.map_nil, List.cons_append, List.nil_append, List.replicate, List.length_cons, List.length_nil, o_add, o_sub, o_lt, o_le, o_gt, o_ge, o_les, o_eq, o_ne, o_eqs, o_nes, o_eqb, o_neb, o_is, o_isNot, o_iadd, o_neg, b_int, b_min, b_max]
    split <;> exact mid _ _ fun l hl => ⟨l, hl, rfl, rfl⟩
  obtain ⟨d, G', e, l, hl, rfl, rfl⟩ := Rs.ok_of key
  exact ⟨l, hl, e⟩
end Lw
namespace Mi
open PySem PySem.Spec PyProof.Rows L2
/-! ### words, tables -/
theorem w_get1 {ma mb : Ev → M D} {env : Ev} {G : Gh} {Q : D → Gh → Prop} {E : Nat → Gh → Prop} : (eGet1 ma mb env G).sat Q E ↔ (ma env G).sat (fun d G1 => (dctD d G1).isSome = true ∧ (mb env G1).sat (fun y G2 => getQ (dctD d G2) (keyD y) .non fun v => Q v G2) E) E := by
  unfold eGet1
  rw [w_bind]
  cases ma env G with
  | ok d G1 =>
    rw [w_ok, w_ok]
    cases e0 : dctD d G1 with
    | none => exact ⟨fun k => k.elim, fun k => by cases k.1⟩
    | some kvs =>
      dsimp only
      rw [w_bind]
      refine Iff.trans ?_ (and_iff_right rfl).symm
      cases mb env G1 with
      | ok y G2 =>
        rw [w_ok, w_ok]
        unfold getQ
        cases dctD d G2 <;> cases keyD y <;> exact Iff.rfl
      | _ => exact Iff.rfl
  | _ => exact Iff.rfl
theorem w_yes {env : Ev} {G : Gh} {Q : Bool → Gh → Prop} {E : Nat → Gh → Prop} : (bYes env G).sat Q E ↔ Q true G := Iff.rfl
theorem lc_rng {i j : Int} {t : Tm} {nt : Ev → M Bool} {me : Ev → M D} {l : Nat} {env0 : Ev} {G : Gh} {Q : D → Gh → Prop} {E : Nat → Gh → Prop} (hb : RB i j) (P : Nat → Gh → Prop) (h0 : P 0 G)
    (turn : ∀ (k : Nat) G, k < (j - i).toNat → P k G → evQ (t (.int (i + k)) G env0) fun e1 => (nt e1 G).sat (fun b G2 => if b = true then (me e1 G2).sat (fun y G3 => lstQ (G3.ob l) fun acc => acc.length < sizeLine ∧ P (k + 1) (G3.set l (.lst (acc ++ [y])))) nE else P (k + 1) G2) nE)
    (done : ∀ G, P (j - i).toNat G → Q (.ref l) G) : imQ (rngI i j) fun it => (loopC it t nt me l env0 it.n 0 G).sat Q E := by
  unfold rngI
  rw [if_pos hb.big]
  show (loopC _ t nt me l env0 (j - i).toNat 0 G).sat Q E
  refine lc_sat (xs := rngL i (j - i).toNat) P (fun k G _ _ => by rw [rngL_at]) (fun k d G hd p => ?_) (fun G p => done G (by rw [rngL_len] at p; exact p)) _ 0 G (by rw [rngL_len]; rfl) h0
  rw [rngL_at] at hd
  split at hd
  · rename_i h
    cases hd
    exact turn k G h p
  · cases hd
theorem atI_natG {α : Type} {xs : List α} {k : Nat} (h : k < xs.length) : L2.atI xs (k : Int) = some xs[k] := by
  unfold L2.atI L2.ixN
  rw [if_pos (by omega), if_pos (by omega)]
  show xs[(k : Int).toNat]? = _
  rw [Int.toNat_natCast, List.getElem?_eq_getElem h]
theorem atI_int {α : Type} {xs : List α} {i : Int} {x : α} (h : 0 ≤ i) (e : xs[i.toNat]? = some x) : L2.atI xs i = some x := by
  obtain ⟨h1, h2⟩ := List.getElem?_eq_some_iff.mp e
  have z := atI_natG h1
  rw [show ((i.toNat : Nat) : Int) = i by omega, h2] at z
  exact z
theorem ixN_int {n : Nat} {i : Int} (h : 0 ≤ i ∧ i < n) : L2.ixN n i = some i.toNat := by
  unfold L2.ixN
  rw [if_pos h.1, if_pos h.2]
section
variable {κ : Type} [DecidableEq κ]
theorem valD_put (k : κ) (d : D) (j : κ) : ∀ l : List (κ × D), valD (putD l k d) j = if k = j then some d else valD l j
  | [] => rfl
  | (i, e) :: r => by
    rw [putD]
    by_cases h : i = k
    · subst h
      rw [if_pos rfl, valD, valD]
      by_cases h2 : i = j
      · rw [if_pos h2, if_pos h2]
      · rw [if_neg h2, if_neg h2, if_neg h2]
    · rw [if_neg h, valD, valD, valD_put k d j r]
      by_cases h2 : i = j
      · rw [if_pos h2, if_pos h2, if_neg (fun e => h (h2.trans e.symm))]
      · rw [if_neg h2, if_neg h2]
theorem put_len (k : κ) (d : D) : ∀ l : List (κ × D), (putD l k d).length ≤ l.length + 1
  | [] => Nat.le_refl _
  | (i, e) :: r => by
    rw [putD]
    split
    · exact Nat.le_succ _
    · have := put_len k d r
      rw [List.length_cons, List.length_cons]; omega
end
theorem eq_of_er {α : Type} {r : Rs α} {c : Nat} {G : Gh} (h : r.sat (fun _ _ => False) (fun c' G' => c' = c ∧ G' = G)) : r = .er c G := by
  cases r with
  | ok a' G' => exact h.elim
  | er c G' => rw [h.1, h.2]
  | no => exact h.elim
theorem Rs.er_of {α : Type} {r : Rs α} {E : Nat → Gh → Prop} (h : r.sat (fun _ _ => False) E) : ∃ c G, r = .er c G ∧ E c G := by
  cases r with
  | ok a' G' => exact h.elim
  | er c G' => exact ⟨c, G', rfl, h⟩
  | no => exact h.elim
end Mi
namespace Lw
open PySem PySem.Spec PyProof.Rows L2 Mi
/-! ### rows of numbers -/
def rv (row : List Int) (k : Int) : Int := row.getD k.toNat 0
theorem row_ix {G : Gh} {R : Nat} {row : List Int} (h : G.ob R = .lst (row.map D.int)) (k : Int) (hk : 0 ≤ k ∧ k < row.length) : opIx (.ref R) (.int k) G = some (.int (rv row k), G) := by
  have z := atI_nat (xs := row.map D.int) (k := k.toNat) (by rw [List.length_map]; omega)
  rw [show ((k.toNat : Nat) : Int) = k by omega] at z
  refine ix_lst h ?_
  rw [z, List.getElem_map]
  unfold rv
  rw [List.getD_eq_getElem?_getD, List.getElem?_eq_getElem (show k.toNat < row.length by omega)]
  rfl
/-! ### the law's _law_same -/
theorem same_str (n : Nat) (x : Str) (G : Gh) : m_law_same (n + 1) [.str x, .str x] G = .ok (.bl true) G := by
  apply eq_of_sat
  unfold m_law_same b_law_same
  rw [w_fun]
  refine ⟨rfl, ?_⟩
  simp only [q_law_same_1, q_law_same_2, q_law_same_3, q_law_same_4, w_seq, w_ok, w_c, w_v, w_op, w_un, w_b, w_nil, w_cons, w_call, w_tup, w_lst, w_dct0, w_fld, w_meth, w_make, w_mt, w_get2, w_tru, w_asB, w_not, w_and, w_or, w_chain, w_andV, w_orV, w_notV, w_if, w_isi, w_pNone, w_pSome, w_sl, w_nx, w_brk, w_cnt, w_drop, w_ret, w_retN, w_sif, w_raise, gmN, gmT, gmAll, w_asg, w_sfld, w_ssub, w_saug, w_for, w_iseq, w_irng1, w_irng2, slotQ_some, opQ_some, opD_some, getQ_some, opB_some, blQ_bl, tyQ_some, inQ_int, evQ_some, ghQ_some, List.getElem?_cons_zero, List.getElem?_cons_succ, List.set_cons_zero, List.set_cons_succ, List.map_cons, List.map_nil, List.cons_append, List.nil_append, List.replicate, List.length_cons, List.length_nil, o_add, o_sub, o_lt, o_le, o_gt, o_ge, o_les, o_eq, o_ne, o_eqs, o_nes, o_eqb, o_neb, o_is, o_isNot, o_iadd, o_neg, b_int, b_min, b_max, Mi.isNon, tyD, isTy, truD, Nat.reduceBEq, Bool.and_false, Bool.and_true, Bool.or_false, Bool.false_eq_true, if_false, if_true, Bool.and_self, decide_true]
  trivial
theorem same_int (n : Nat) (x : Int) (G : Gh) : m_law_same (n + 1) [.int x, .int x] G = .ok (.bl true) G := by
  apply eq_of_sat
  unfold m_law_same b_law_same
  rw [w_fun]
  refine ⟨rfl, ?_⟩
  simp only [q_law_same_1, q_law_same_2, q_law_same_3, w_seq, w_ok, w_c, w_v, w_op, w_un, w_b, w_nil, w_cons, w_call, w_tup, w_lst, w_dct0, w_fld, w_meth, w_make, w_mt, w_get2, w_tru, w_asB, w_not, w_and, w_or, w_chain, w_andV, w_orV, w_notV, w_if, w_isi, w_pNone, w_pSome, w_sl, w_nx, w_brk, w_cnt, w_drop, w_ret, w_retN, w_sif, w_raise, gmN, gmT, gmAll, w_asg, w_sfld, w_ssub, w_saug, w_for, w_iseq, w_irng1, w_irng2, slotQ_some, opQ_some, opD_some, getQ_some, opB_some, blQ_bl, tyQ_some, inQ_int, evQ_some, ghQ_some, List.getElem?_cons_zero, List.getElem?_cons_succ, List.set_cons_zero, List.set_cons_succ, List.map_cons, List.map_nil, List.cons_append, List.nil_append, List.replicate, List.length_cons, List.length_nil, o_add, o_sub, o_lt, o_le, o_gt, o_ge, o_les, o_eq, o_ne, o_eqs, o_nes, o_eqb, o_neb, o_is, o_isNot, o_iadd, o_neg, b_int, b_min, b_max, Mi.isNon, tyD, isTy, truD, Nat.reduceBEq, Bool.and_false, Bool.and_true, Bool.or_false, Bool.false_eq_true, if_false, if_true, Bool.and_self, decide_true, Bool.not_false]
  trivial
theorem same_non (n : Nat) (G : Gh) : m_law_same (n + 1) [.non, .non] G = .ok (.bl true) G := by
  apply eq_of_sat
  unfold m_law_same b_law_same
  rw [w_fun]
  refine ⟨rfl, ?_⟩
  simp only [q_law_same_1, w_seq, w_ok, w_c, w_v, w_op, w_un, w_b, w_nil, w_cons, w_call, w_tup, w_lst, w_dct0, w_fld, w_meth, w_make, w_mt, w_get2, w_tru, w_asB, w_not, w_and, w_or, w_chain, w_andV, w_orV, w_notV, w_if, w_isi, w_pNone, w_pSome, w_sl, w_nx, w_brk, w_cnt, w_drop, w_ret, w_retN, w_sif, w_raise, gmN, gmT, gmAll, w_asg, w_sfld, w_ssub, w_saug, w_for, w_iseq, w_irng1, w_irng2, slotQ_some, opQ_some, opD_some, getQ_some, opB_some, blQ_bl, tyQ_some, inQ_int, evQ_some, ghQ_some, List.getElem?_cons_zero, List.getElem?_cons_succ, List.set_cons_zero, List.set_cons_succ, List.map_cons, List.map_nil, List.cons_append, List.nil_append, List.replicate, List.length_cons, List.length_nil, o_add, o_sub, o_lt, o_le, o_gt, o_ge, o_les, o_eq, o_ne, o_eqs, o_nes, o_eqb, o_neb, o_is, o_isNot, o_iadd, o_neg, b_int, b_min, b_max, Mi.isNon, Bool.false_eq_true, if_false, if_true]
  trivial
theorem atI_get {xs : List D} {k : Nat} {x : D} (h : xs[k]? = some x) : L2.atI xs (0 + (k : Int)) = some x := by
  obtain ⟨hk, rfl⟩ := List.getElem?_eq_some_iff.mp h
  rw [Int.zero_add]; exact atI_nat hk
theorem same_lst (n : Nat) (xs ys : List D) (p p' : Nat) (G : Gh) (h1 : G.ob p = .lst xs) (h2 : G.ob p' = .lst ys) (hl : xs.length = ys.length) (hz : xs.length ≤ 1000000) (he : ∀ (k : Nat) (x y : D), xs[k]? = some x → ys[k]? = some y → m_law_same n [x, y] G = .ok (.bl true) G) : m_law_same (n + 1) [.ref p, .ref p'] G = .ok (.bl true) G := by
  apply eq_of_sat
  rw [m_law_same]
  unfold b_law_same
  rw [w_fun]
  refine ⟨rfl, ?_⟩
  have t1 : tyD (.ref p) G = some 5 := ty_lst h1
  have t2 : tyD (.ref p') G = some 5 := ty_lst h2
  have l1 : lenD (.ref p) G = some xs.length := len_lst h1
  have l2 : lenD (.ref p') G = some xs.length := (len_lst h2).trans (by rw [hl])
  simp only [q_law_same_1, q_law_same_2, q_law_same_3, q_law_same_4, q_law_same_5, q_law_same_6, q_law_same_7, w_seq, w_ok, w_c, w_v, w_op, w_un, w_b, w_nil, w_cons, w_call, w_tup, w_lst, w_dct0, w_fld, w_meth, w_make, w_mt, w_get2, w_tru, w_asB, w_not, w_and, w_or, w_chain, w_andV, w_orV, w_notV, w_if, w_isi, w_pNone, w_pSome, w_sl, w_nx, w_brk, w_cnt, w_drop, w_ret, w_retN, w_sif, w_raise, gmN, gmT, gmAll, w_asg, w_sfld, w_ssub, w_saug, w_for, w_iseq, w_irng1, w_irng2, slotQ_some, opQ_some, opD_some, getQ_some, opB_some, blQ_bl, tyQ_some, inQ_int, evQ_some, ghQ_some, List.getElem?_cons_zero, List.getElem?_cons_succ, List.set_cons_zero, List.set_cons_succ, List.map_cons, List.map_nil, List.cons_append, List.nil_append, List.replicate, List.length_cons, List.length_nil, o_add, o_sub, o_lt, o_le, o_gt, o_ge, o_les, o_eq, o_ne, o_eqs, o_nes, o_eqb, o_neb, o_is, o_isNot, o_iadd, o_neg, b_int, b_min, b_max, Mi.isNon, t1, t2, isTy, truD, Nat.reduceBEq, Bool.and_false, Bool.and_true, Bool.or_false, Bool.false_eq_true, if_false, if_true, Bool.and_self, decide_true, Bool.not_false, b_len l1, b_len l2, Bool.not_true, rng1]
  refine rng_sat ⟨by omega⟩ (fun k e G' => ∃ y, e = [some (.ref p), some (.ref p'), y] ∧ G' = G) ⟨none, rfl, rfl⟩ ?_ ?_
  · rintro k e G' hk ⟨y, rfl, rfl⟩
    have hk' : k < xs.length := by omega
    have e1 : xs[k]? = some xs[k] := List.getElem?_eq_getElem hk'
    have e2 : ys[k]? = some ys[k] := List.getElem?_eq_getElem (hl ▸ hk')
    have i1 : opIx (.ref p) (.int (0 + (k : Int))) G' = some (xs[k], G') := ix_lst h1 (atI_get e1)
    have i2 : opIx (.ref p') (.int (0 + (k : Int))) G' = some (ys[k], G') := ix_lst h2 (atI_get e2)
    simp only [w_ok, w_c, w_v, w_op, w_un, w_b, w_nil, w_cons, w_call, w_tup, w_lst, w_dct0, w_fld, w_meth, w_make, w_mt, w_get2, w_tru, w_asB, w_not, w_and, w_or, w_chain, w_andV, w_orV, w_notV, w_if, w_isi, w_pNone, w_pSome, w_sl, w_nx, w_brk, w_cnt, w_drop, w_ret, w_retN, w_sif, w_raise, gmN, gmT, gmAll, w_asg, w_sfld, w_ssub, w_saug, w_for, w_iseq, w_irng1, w_irng2, slotQ_some, opQ_some, opD_some, getQ_some, opB_some, blQ_bl, tyQ_some, inQ_int, evQ_some, ghQ_some, List.getElem?_cons_zero, List.getElem?_cons_succ, List.set_cons_zero, List.set_cons_succ, List.map_cons, List.map_nil, List.cons_append, List.nil_append, List.replicate, List.length_cons, List.length_nil, o_add, o_sub, o_lt, o_le, o_gt, o_ge, o_les, o_eq, o_ne, o_eqs, o_nes, o_eqb, o_neb, o_is, o_isNot, o_iadd, o_neg, b_int, b_min, b_max, i1, i2, he k _ _ e1 e2, truD, Bool.not_true, Bool.false_eq_true, if_false]
    exact ⟨_, rfl, trivial⟩
  · rintro e G' ⟨y, rfl, rfl⟩
    exact ⟨trivial, rfl⟩
theorem same_tup (n : Nat) (xs ys : List D) (G : Gh) (hl : xs.length = ys.length) (hz : xs.length ≤ 1000000) (he : ∀ (k : Nat) (x y : D), xs[k]? = some x → ys[k]? = some y → m_law_same n [x, y] G = .ok (.bl true) G) : m_law_same (n + 1) [.tup xs, .tup ys] G = .ok (.bl true) G := by
  apply eq_of_sat
  rw [m_law_same]
  unfold b_law_same
  rw [w_fun]
  refine ⟨rfl, ?_⟩
  have t1 : tyD (.tup xs) G = some 4 := rfl
  have t2 : tyD (.tup ys) G = some 4 := rfl
  have l1 : lenD (.tup xs) G = some xs.length := rfl
  have l2 : lenD (.tup ys) G = some xs.length := by rw [hl]; rfl
  simp only [q_law_same_1, q_law_same_2, q_law_same_3, q_law_same_4, q_law_same_5, q_law_same_6, q_law_same_7, w_seq, w_ok, w_c, w_v, w_op, w_un, w_b, w_nil, w_cons, w_call, w_tup, w_lst, w_dct0, w_fld, w_meth, w_make, w_mt, w_get2, w_tru, w_asB, w_not, w_and, w_or, w_chain, w_andV, w_orV, w_notV, w_if, w_isi, w_pNone, w_pSome, w_sl, w_nx, w_brk, w_cnt, w_drop, w_ret, w_retN, w_sif, w_raise, gmN, gmT, gmAll, w_asg, w_sfld, w_ssub, w_saug, w_for, w_iseq, w_irng1, w_irng2, slotQ_some, opQ_some, opD_some, getQ_some, opB_some, blQ_bl, tyQ_some, inQ_int, evQ_some, ghQ_some, List.getElem?_cons_zero, List.getElem?_cons_succ, List.set_cons_zero, List.set_cons_succ, List.map_cons, List.map_nil, List.cons_append, List.nil_append, List.replicate, List.length_cons, List.length_nil, o_add, o_sub, o_lt, o_le, o_gt, o_ge, o_les, o_eq, o_ne, o_eqs, o_nes, o_eqb, o_neb, o_is, o_isNot, o_iadd, o_neg, b_int, b_min, b_max, Mi.isNon, t1, t2, isTy, truD, Nat.reduceBEq, Bool.and_false, Bool.and_true, Bool.or_false, Bool.false_eq_true, if_false, if_true, Bool.and_self, decide_true, Bool.not_false, b_len l1, b_len l2, Bool.not_true, rng1]
  refine rng_sat ⟨by omega⟩ (fun k e G' => ∃ y, e = [some (.tup xs), some (.tup ys), y] ∧ G' = G) ⟨none, rfl, rfl⟩ ?_ ?_
  · rintro k e G' hk ⟨y, rfl, rfl⟩
    have hk' : k < xs.length := by omega
    have e1 : xs[k]? = some xs[k] := List.getElem?_eq_getElem hk'
    have e2 : ys[k]? = some ys[k] := List.getElem?_eq_getElem (hl ▸ hk')
    have i1 : opIx (.tup xs) (.int (0 + (k : Int))) G' = some (xs[k], G') := ix_tup (atI_get e1)
    have i2 : opIx (.tup ys) (.int (0 + (k : Int))) G' = some (ys[k], G') := ix_tup (atI_get e2)
    simp only [w_ok, w_c, w_v, w_op, w_un, w_b, w_nil, w_cons, w_call, w_tup, w_lst, w_dct0, w_fld, w_meth, w_make, w_mt, w_get2, w_tru, w_asB, w_not, w_and, w_or, w_chain, w_andV, w_orV, w_notV, w_if, w_isi, w_pNone, w_pSome, w_sl, w_nx, w_brk, w_cnt, w_drop, w_ret, w_retN, w_sif, w_raise, gmN, gmT, gmAll, w_asg, w_sfld, w_ssub, w_saug, w_for, w_iseq, w_irng1, w_irng2, slotQ_some, opQ_some, opD_some, getQ_some, opB_some, blQ_bl, tyQ_some, inQ_int, evQ_some, ghQ_some, List.getElem?_cons_zero, List.getElem?_cons_succ, List.set_cons_zero, List.set_cons_succ, List.map_cons, List.map_nil, List.cons_append, List.nil_append, List.replicate, List.length_cons, List.length_nil, o_add, o_sub, o_lt, o_le, o_gt, o_ge, o_les, o_eq, o_ne, o_eqs, o_nes, o_eqb, o_neb, o_is, o_isNot, o_iadd, o_neg, b_int, b_min, b_max, i1, i2, he k _ _ e1 e2, truD, Bool.not_true, Bool.false_eq_true, if_false]
    exact ⟨_, rfl, trivial⟩
  · rintro e G' ⟨y, rfl, rfl⟩
    exact ⟨trivial, rfl⟩
/-! ### the law's _law_class -/
theorem class_1 (G : Gh) : m_law_class 0 1 [.exc 0] G = .ok (.str "BadValue") (G.push (.lst [.str "BadValue"])) := by
  apply eq_of_sat
  unfold m_law_class b_law_class
  rw [w_fun]
  refine ⟨rfl, ?_⟩
  have o1 : (G.push (.lst [])).ob G.n = .lst [] := ob_push_same _ _
  have l1 : isLst (.ref G.n) (G.push (.lst [])) = true := isLst_of o1
  have a1 : ∀ z : D, mAppend (.ref G.n) [z] (G.push (.lst [])) = some (.non, G.push (.lst [z])) := fun z => by rw [m_append o1 (by decide), push_set]; rfl
  have n1 : lenD (.ref G.n) (G.push (.lst [.str "BadValue"])) = some 1 := len_lst (xs := [.str "BadValue"]) (ob_push_same _ _)
  have x1 : opIx (.ref G.n) (.int 0) (G.push (.lst [.str "BadValue"])) = some (.str "BadValue", G.push (.lst [.str "BadValue"])) := ix_lst (xs := [.str "BadValue"]) (ob_push_same _ _) rfl
  simp only [q_law_class_1, q_law_class_2, q_law_class_3, q_law_class_4, q_law_class_5, q_law_class_6, q_law_class_7, q_law_class_8, q_law_class_9, w_seq, w_isE, w_ok, w_c, w_v, w_op, w_un, w_b, w_nil, w_cons, w_call, w_tup, w_lst, w_dct0, w_fld, w_meth, w_make, w_mt, w_get2, w_tru, w_asB, w_not, w_and, w_or, w_chain, w_andV, w_orV, w_notV, w_if, w_isi, w_pNone, w_pSome, w_sl, w_nx, w_brk, w_cnt, w_drop, w_ret, w_retN, w_sif, w_raise, gmN, gmT, gmAll, w_asg, w_sfld, w_ssub, w_saug, w_for, w_iseq, w_irng1, w_irng2, slotQ_some, opQ_some, opD_some, getQ_some, opB_some, blQ_bl, tyQ_some, inQ_int, evQ_some, ghQ_some, List.getElem?_cons_zero, List.getElem?_cons_succ, List.set_cons_zero, List.set_cons_succ, List.map_cons, List.map_nil, List.cons_append, List.nil_append, List.replicate, List.length_cons, List.length_nil, o_add, o_sub, o_lt, o_le, o_gt, o_ge, o_les, o_eq, o_ne, o_eqs, o_nes, o_eqb, o_neb, o_is, o_isNot, o_iadd, o_neg, b_int, b_min, b_max, Nat.zero_le, true_and, l1, a1, b_len n1, x1, truD,
    show sbOf tab_BadValue 1 = some true from rfl, show sbOf tab_BadDay 1 = some false from rfl, show sbOf tab_Missing 1 = some false from rfl, show sbOf tab_Refused 1 = some false from rfl, show sbOf tab_Full 1 = some false from rfl, show sbOf tab_NotAllowed 1 = some false from rfl, show sbOf tab_Damaged 1 = some false from rfl, show sbOf tab_ValueError 1 = some true from rfl, if_true, if_false, Bool.false_eq_true, Int.ofNat_one, decide_true]
theorem class_2 (G : Gh) : m_law_class 0 2 [.exc 0] G = .ok (.str "BadDay") (G.push (.lst [.str "BadDay"])) := by
  apply eq_of_sat
  unfold m_law_class b_law_class
  rw [w_fun]
  refine ⟨rfl, ?_⟩
  have o1 : (G.push (.lst [])).ob G.n = .lst [] := ob_push_same _ _
  have l1 : isLst (.ref G.n) (G.push (.lst [])) = true := isLst_of o1
  have a1 : ∀ z : D, mAppend (.ref G.n) [z] (G.push (.lst [])) = some (.non, G.push (.lst [z])) := fun z => by rw [m_append o1 (by decide), push_set]; rfl
  have n1 : lenD (.ref G.n) (G.push (.lst [.str "BadDay"])) = some 1 := len_lst (xs := [.str "BadDay"]) (ob_push_same _ _)
  have x1 : opIx (.ref G.n) (.int 0) (G.push (.lst [.str "BadDay"])) = some (.str "BadDay", G.push (.lst [.str "BadDay"])) := ix_lst (xs := [.str "BadDay"]) (ob_push_same _ _) rfl
  simp only [q_law_class_1, q_law_class_2, q_law_class_3, q_law_class_4, q_law_class_5, q_law_class_6, q_law_class_7, q_law_class_8, q_law_class_9, w_seq, w_isE, w_ok, w_c, w_v, w_op, w_un, w_b, w_nil, w_cons, w_call, w_tup, w_lst, w_dct0, w_fld, w_meth, w_make, w_mt, w_get2, w_tru, w_asB, w_not, w_and, w_or, w_chain, w_andV, w_orV, w_notV, w_if, w_isi, w_pNone, w_pSome, w_sl, w_nx, w_brk, w_cnt, w_drop, w_ret, w_retN, w_sif, w_raise, gmN, gmT, gmAll, w_asg, w_sfld, w_ssub, w_saug, w_for, w_iseq, w_irng1, w_irng2, slotQ_some, opQ_some, opD_some, getQ_some, opB_some, blQ_bl, tyQ_some, inQ_int, evQ_some, ghQ_some, List.getElem?_cons_zero, List.getElem?_cons_succ, List.set_cons_zero, List.set_cons_succ, List.map_cons, List.map_nil, List.cons_append, List.nil_append, List.replicate, List.length_cons, List.length_nil, o_add, o_sub, o_lt, o_le, o_gt, o_ge, o_les, o_eq, o_ne, o_eqs, o_nes, o_eqb, o_neb, o_is, o_isNot, o_iadd, o_neg, b_int, b_min, b_max, Nat.zero_le, true_and, l1, a1, b_len n1, x1, truD,
    show sbOf tab_BadValue 2 = some false from rfl, show sbOf tab_BadDay 2 = some true from rfl, show sbOf tab_Missing 2 = some false from rfl, show sbOf tab_Refused 2 = some false from rfl, show sbOf tab_Full 2 = some false from rfl, show sbOf tab_NotAllowed 2 = some false from rfl, show sbOf tab_Damaged 2 = some false from rfl, show sbOf tab_ValueError 2 = some true from rfl, if_true, if_false, Bool.false_eq_true, Int.ofNat_one, decide_true]
theorem class_3 (G : Gh) : m_law_class 0 3 [.exc 0] G = .ok (.str "Missing") (G.push (.lst [.str "Missing"])) := by
  apply eq_of_sat
  unfold m_law_class b_law_class
  rw [w_fun]
  refine ⟨rfl, ?_⟩
  have o1 : (G.push (.lst [])).ob G.n = .lst [] := ob_push_same _ _
  have l1 : isLst (.ref G.n) (G.push (.lst [])) = true := isLst_of o1
  have a1 : ∀ z : D, mAppend (.ref G.n) [z] (G.push (.lst [])) = some (.non, G.push (.lst [z])) := fun z => by rw [m_append o1 (by decide), push_set]; rfl
  have n1 : lenD (.ref G.n) (G.push (.lst [.str "Missing"])) = some 1 := len_lst (xs := [.str "Missing"]) (ob_push_same _ _)
  have x1 : opIx (.ref G.n) (.int 0) (G.push (.lst [.str "Missing"])) = some (.str "Missing", G.push (.lst [.str "Missing"])) := ix_lst (xs := [.str "Missing"]) (ob_push_same _ _) rfl
  simp only [q_law_class_1, q_law_class_2, q_law_class_3, q_law_class_4, q_law_class_5, q_law_class_6, q_law_class_7, q_law_class_8, q_law_class_9, w_seq, w_isE, w_ok, w_c, w_v, w_op, w_un, w_b, w_nil, w_cons, w_call, w_tup, w_lst, w_dct0, w_fld, w_meth, w_make, w_mt, w_get2, w_tru, w_asB, w_not, w_and, w_or, w_chain, w_andV, w_orV, w_notV, w_if, w_isi, w_pNone, w_pSome, w_sl, w_nx, w_brk, w_cnt, w_drop, w_ret, w_retN, w_sif, w_raise, gmN, gmT, gmAll, w_asg, w_sfld, w_ssub, w_saug, w_for, w_iseq, w_irng1, w_irng2, slotQ_some, opQ_some, opD_some, getQ_some, opB_some, blQ_bl, tyQ_some, inQ_int, evQ_some, ghQ_some, List.getElem?_cons_zero, List.getElem?_cons_succ, List.set_cons_zero, List.set_cons_succ, List.map_cons, List.map_nil, List.cons_append, List.nil_append, List.replicate, List.length_cons, List.length_nil, o_add, o_sub, o_lt, o_le, o_gt, o_ge, o_les, o_eq, o_ne, o_eqs, o_nes, o_eqb, o_neb, o_is, o_isNot, o_iadd, o_neg, b_int, b_min, b_max, Nat.zero_le, true_and, l1, a1, b_len n1, x1, truD,
    show sbOf tab_BadValue 3 = some false from rfl, show sbOf tab_BadDay 3 = some false from rfl, show sbOf tab_Missing 3 = some true from rfl, show sbOf tab_Refused 3 = some false from rfl, show sbOf tab_Full 3 = some false from rfl, show sbOf tab_NotAllowed 3 = some false from rfl, show sbOf tab_Damaged 3 = some false from rfl, show sbOf tab_ValueError 3 = some true from rfl, if_true, if_false, Bool.false_eq_true, Int.ofNat_one, decide_true]
theorem class_4 (G : Gh) : m_law_class 0 4 [.exc 0] G = .ok (.str "Refused") (G.push (.lst [.str "Refused"])) := by
  apply eq_of_sat
  unfold m_law_class b_law_class
  rw [w_fun]
  refine ⟨rfl, ?_⟩
  have o1 : (G.push (.lst [])).ob G.n = .lst [] := ob_push_same _ _
  have l1 : isLst (.ref G.n) (G.push (.lst [])) = true := isLst_of o1
  have a1 : ∀ z : D, mAppend (.ref G.n) [z] (G.push (.lst [])) = some (.non, G.push (.lst [z])) := fun z => by rw [m_append o1 (by decide), push_set]; rfl
  have n1 : lenD (.ref G.n) (G.push (.lst [.str "Refused"])) = some 1 := len_lst (xs := [.str "Refused"]) (ob_push_same _ _)
  have x1 : opIx (.ref G.n) (.int 0) (G.push (.lst [.str "Refused"])) = some (.str "Refused", G.push (.lst [.str "Refused"])) := ix_lst (xs := [.str "Refused"]) (ob_push_same _ _) rfl
  simp only [q_law_class_1, q_law_class_2, q_law_class_3, q_law_class_4, q_law_class_5, q_law_class_6, q_law_class_7, q_law_class_8, q_law_class_9, w_seq, w_isE, w_ok, w_c, w_v, w_op, w_un, w_b, w_nil, w_cons, w_call, w_tup, w_lst, w_dct0, w_fld, w_meth, w_make, w_mt, w_get2, w_tru, w_asB, w_not, w_and, w_or, w_chain, w_andV, w_orV, w_notV, w_if, w_isi, w_pNone, w_pSome, w_sl, w_nx, w_brk, w_cnt, w_drop, w_ret, w_retN, w_sif, w_raise, gmN, gmT, gmAll, w_asg, w_sfld, w_ssub, w_saug, w_for, w_iseq, w_irng1, w_irng2, slotQ_some, opQ_some, opD_some, getQ_some, opB_some, blQ_bl, tyQ_some, inQ_int, evQ_some, ghQ_some, List.getElem?_cons_zero, List.getElem?_cons_succ, List.set_cons_zero, List.set_cons_succ, List.map_cons, List.map_nil, List.cons_append, List.nil_append, List.replicate, List.length_cons, List.length_nil, o_add, o_sub, o_lt, o_le, o_gt, o_ge, o_les, o_eq, o_ne, o_eqs, o_nes, o_eqb, o_neb, o_is, o_isNot, o_iadd, o_neg, b_int, b_min, b_max, Nat.zero_le, true_and, l1, a1, b_len n1, x1, truD,
    show sbOf tab_BadValue 4 = some false from rfl, show sbOf tab_BadDay 4 = some false from rfl, show sbOf tab_Missing 4 = some false from rfl, show sbOf tab_Refused 4 = some true from rfl, show sbOf tab_Full 4 = some false from rfl, show sbOf tab_NotAllowed 4 = some false from rfl, show sbOf tab_Damaged 4 = some false from rfl, show sbOf tab_ValueError 4 = some true from rfl, if_true, if_false, Bool.false_eq_true, Int.ofNat_one, decide_true]
theorem class_5 (G : Gh) : m_law_class 0 5 [.exc 0] G = .ok (.str "Full") (G.push (.lst [.str "Full"])) := by
  apply eq_of_sat
  unfold m_law_class b_law_class
  rw [w_fun]
  refine ⟨rfl, ?_⟩
  have o1 : (G.push (.lst [])).ob G.n = .lst [] := ob_push_same _ _
  have l1 : isLst (.ref G.n) (G.push (.lst [])) = true := isLst_of o1
  have a1 : ∀ z : D, mAppend (.ref G.n) [z] (G.push (.lst [])) = some (.non, G.push (.lst [z])) := fun z => by rw [m_append o1 (by decide), push_set]; rfl
  have n1 : lenD (.ref G.n) (G.push (.lst [.str "Full"])) = some 1 := len_lst (xs := [.str "Full"]) (ob_push_same _ _)
  have x1 : opIx (.ref G.n) (.int 0) (G.push (.lst [.str "Full"])) = some (.str "Full", G.push (.lst [.str "Full"])) := ix_lst (xs := [.str "Full"]) (ob_push_same _ _) rfl
  simp only [q_law_class_1, q_law_class_2, q_law_class_3, q_law_class_4, q_law_class_5, q_law_class_6, q_law_class_7, q_law_class_8, q_law_class_9, w_seq, w_isE, w_ok, w_c, w_v, w_op, w_un, w_b, w_nil, w_cons, w_call, w_tup, w_lst, w_dct0, w_fld, w_meth, w_make, w_mt, w_get2, w_tru, w_asB, w_not, w_and, w_or, w_chain, w_andV, w_orV, w_notV, w_if, w_isi, w_pNone, w_pSome, w_sl, w_nx, w_brk, w_cnt, w_drop, w_ret, w_retN, w_sif, w_raise, gmN, gmT, gmAll, w_asg, w_sfld, w_ssub, w_saug, w_for, w_iseq, w_irng1, w_irng2, slotQ_some, opQ_some, opD_some, getQ_some, opB_some, blQ_bl, tyQ_some, inQ_int, evQ_some, ghQ_some, List.getElem?_cons_zero, List.getElem?_cons_succ, List.set_cons_zero, List.set_cons_succ, List.map_cons, List.map_nil, List.cons_append, List.nil_append, List.replicate, List.length_cons, List.length_nil, o_add, o_sub, o_lt, o_le, o_gt, o_ge, o_les, o_eq, o_ne, o_eqs, o_nes, o_eqb, o_neb, o_is, o_isNot, o_iadd, o_neg, b_int, b_min, b_max, Nat.zero_le, true_and, l1, a1, b_len n1, x1, truD,
    show sbOf tab_BadValue 5 = some false from rfl, show sbOf tab_BadDay 5 = some false from rfl, show sbOf tab_Missing 5 = some false from rfl, show sbOf tab_Refused 5 = some false from rfl, show sbOf tab_Full 5 = some true from rfl, show sbOf tab_NotAllowed 5 = some false from rfl, show sbOf tab_Damaged 5 = some false from rfl, show sbOf tab_ValueError 5 = some true from rfl, if_true, if_false, Bool.false_eq_true, Int.ofNat_one, decide_true]
theorem class_6 (G : Gh) : m_law_class 0 6 [.exc 0] G = .ok (.str "NotAllowed") (G.push (.lst [.str "NotAllowed"])) := by
  apply eq_of_sat
  unfold m_law_class b_law_class
  rw [w_fun]
  refine ⟨rfl, ?_⟩
  have o1 : (G.push (.lst [])).ob G.n = .lst [] := ob_push_same _ _
  have l1 : isLst (.ref G.n) (G.push (.lst [])) = true := isLst_of o1
  have a1 : ∀ z : D, mAppend (.ref G.n) [z] (G.push (.lst [])) = some (.non, G.push (.lst [z])) := fun z => by rw [m_append o1 (by decide), push_set]; rfl
  have n1 : lenD (.ref G.n) (G.push (.lst [.str "NotAllowed"])) = some 1 := len_lst (xs := [.str "NotAllowed"]) (ob_push_same _ _)
  have x1 : opIx (.ref G.n) (.int 0) (G.push (.lst [.str "NotAllowed"])) = some (.str "NotAllowed", G.push (.lst [.str "NotAllowed"])) := ix_lst (xs := [.str "NotAllowed"]) (ob_push_same _ _) rfl
  simp only [q_law_class_1, q_law_class_2, q_law_class_3, q_law_class_4, q_law_class_5, q_law_class_6, q_law_class_7, q_law_class_8, q_law_class_9, w_seq, w_isE, w_ok, w_c, w_v, w_op, w_un, w_b, w_nil, w_cons, w_call, w_tup, w_lst, w_dct0, w_fld, w_meth, w_make, w_mt, w_get2, w_tru, w_asB, w_not, w_and, w_or, w_chain, w_andV, w_orV, w_notV, w_if, w_isi, w_pNone, w_pSome, w_sl, w_nx, w_brk, w_cnt, w_drop, w_ret, w_retN, w_sif, w_raise, gmN, gmT, gmAll, w_asg, w_sfld, w_ssub, w_saug, w_for, w_iseq, w_irng1, w_irng2, slotQ_some, opQ_some, opD_some, getQ_some, opB_some, blQ_bl, tyQ_some, inQ_int, evQ_some, ghQ_some, List.getElem?_cons_zero, List.getElem?_cons_succ, List.set_cons_zero, List.set_cons_succ, List.map_cons, List.map_nil, List.cons_append, List.nil_append, List.replicate, List.length_cons, List.length_nil, o_add, o_sub, o_lt, o_le, o_gt, o_ge, o_les, o_eq, o_ne, o_eqs, o_nes, o_eqb, o_neb, o_is, o_isNot, o_iadd, o_neg, b_int, b_min, b_max, Nat.zero_le, true_and, l1, a1, b_len n1, x1, truD,
    show sbOf tab_BadValue 6 = some false from rfl, show sbOf tab_BadDay 6 = some false from rfl, show sbOf tab_Missing 6 = some false from rfl, show sbOf tab_Refused 6 = some false from rfl, show sbOf tab_Full 6 = some false from rfl, show sbOf tab_NotAllowed 6 = some true from rfl, show sbOf tab_Damaged 6 = some false from rfl, show sbOf tab_ValueError 6 = some true from rfl, if_true, if_false, Bool.false_eq_true, Int.ofNat_one, decide_true]
theorem class_7 (G : Gh) : m_law_class 0 7 [.exc 0] G = .ok (.str "Damaged") (G.push (.lst [.str "Damaged"])) := by
  apply eq_of_sat
  unfold m_law_class b_law_class
  rw [w_fun]
  refine ⟨rfl, ?_⟩
  have o1 : (G.push (.lst [])).ob G.n = .lst [] := ob_push_same _ _
  have l1 : isLst (.ref G.n) (G.push (.lst [])) = true := isLst_of o1
  have a1 : ∀ z : D, mAppend (.ref G.n) [z] (G.push (.lst [])) = some (.non, G.push (.lst [z])) := fun z => by rw [m_append o1 (by decide), push_set]; rfl
  have n1 : lenD (.ref G.n) (G.push (.lst [.str "Damaged"])) = some 1 := len_lst (xs := [.str "Damaged"]) (ob_push_same _ _)
  have x1 : opIx (.ref G.n) (.int 0) (G.push (.lst [.str "Damaged"])) = some (.str "Damaged", G.push (.lst [.str "Damaged"])) := ix_lst (xs := [.str "Damaged"]) (ob_push_same _ _) rfl
  simp only [q_law_class_1, q_law_class_2, q_law_class_3, q_law_class_4, q_law_class_5, q_law_class_6, q_law_class_7, q_law_class_8, q_law_class_9, w_seq, w_isE, w_ok, w_c, w_v, w_op, w_un, w_b, w_nil, w_cons, w_call, w_tup, w_lst, w_dct0, w_fld, w_meth, w_make, w_mt, w_get2, w_tru, w_asB, w_not, w_and, w_or, w_chain, w_andV, w_orV, w_notV, w_if, w_isi, w_pNone, w_pSome, w_sl, w_nx, w_brk, w_cnt, w_drop, w_ret, w_retN, w_sif, w_raise, gmN, gmT, gmAll, w_asg, w_sfld, w_ssub, w_saug, w_for, w_iseq, w_irng1, w_irng2, slotQ_some, opQ_some, opD_some, getQ_some, opB_some, blQ_bl, tyQ_some, inQ_int, evQ_some, ghQ_some, List.getElem?_cons_zero, List.getElem?_cons_succ, List.set_cons_zero, List.set_cons_succ, List.map_cons, List.map_nil, List.cons_append, List.nil_append, List.replicate, List.length_cons, List.length_nil, o_add, o_sub, o_lt, o_le, o_gt, o_ge, o_les, o_eq, o_ne, o_eqs, o_nes, o_eqb, o_neb, o_is, o_isNot, o_iadd, o_neg, b_int, b_min, b_max, Nat.zero_le, true_and, l1, a1, b_len n1, x1, truD,
    show sbOf tab_BadValue 7 = some false from rfl, show sbOf tab_BadDay 7 = some false from rfl, show sbOf tab_Missing 7 = some false from rfl, show sbOf tab_Refused 7 = some false from rfl, show sbOf tab_Full 7 = some false from rfl, show sbOf tab_NotAllowed 7 = some false from rfl, show sbOf tab_Damaged 7 = some true from rfl, show sbOf tab_ValueError 7 = some true from rfl, if_true, if_false, Bool.false_eq_true, Int.ofNat_one, decide_true]
def ClsN (c : Nat) (nm : Str) : Prop := (c = 1 ∧ nm = "BadValue") ∨ (c = 2 ∧ nm = "BadDay") ∨ (c = 3 ∧ nm = "Missing") ∨ (c = 4 ∧ nm = "Refused") ∨ (c = 5 ∧ nm = "Full") ∨ (c = 6 ∧ nm = "NotAllowed") ∨ (c = 7 ∧ nm = "Damaged")
theorem class_eq (c : Nat) (nm : Str) (h : ClsN c nm) (G : Gh) : m_law_class 0 c [.exc 0] G = .ok (.str nm) (G.push (.lst [.str nm])) := by
  rcases h with ⟨rfl, rfl⟩ | ⟨rfl, rfl⟩ | ⟨rfl, rfl⟩ | ⟨rfl, rfl⟩ | ⟨rfl, rfl⟩ | ⟨rfl, rfl⟩ | ⟨rfl, rfl⟩
  · exact class_1 G
  · exact class_2 G
  · exact class_3 G
  · exact class_4 G
  · exact class_5 G
  · exact class_6 G
  · exact class_7 G
theorem clsN_sb {c : Nat} {nm : Str} (h : ClsN c nm) : sb_0 c = some true := by
  rcases h with ⟨rfl, rfl⟩ | ⟨rfl, rfl⟩ | ⟨rfl, rfl⟩ | ⟨rfl, rfl⟩ | ⟨rfl, rfl⟩ | ⟨rfl, rfl⟩ | ⟨rfl, rfl⟩ <;> rfl
end Lw
namespace Lw
open PySem PySem.Spec PyProof.Rows L2 Mi
/-! ### names (k48) -/
def LET : List Nat := ("abcdefghijklmnopqrstuvwxyz" : Str).cps.toList
def DIG : List Nat := ("0123456789" : Str).cps.toList
def SIG : List Nat := ("abcdefghijklmnopqrstuvwxyz0123456789" : Str).cps.toList
def aln (c : Nat) : Bool := decide (c ∈ LET) || decide (c ∈ DIG)
def nameB (z : List Nat) : Bool := decide (1 ≤ z.length ∧ z.length ≤ 12) && (match z with | [] => false | c :: _ => decide (c ∈ LET)) && z.all aln
theorem sig_len : SIG.length = 36 := by decide +kernel
theorem sig_let : ∀ i : Fin 26, SIG.getD i.val 0 ∈ LET := by decide +kernel
theorem sig_aln : ∀ i : Fin 36, aln (SIG.getD i.val 0) = true := by decide +kernel
end Lw
namespace Lw
open PySem PySem.Spec PyProof.Rows L2 Mi
theorem memD_one (c : Nat) (z : Str) (G : Gh) : memD (.str ⟨#[c]⟩) (.str z) G = some (decide (c ∈ z.cps.toList)) := rfl
theorem ix_str {z : Str} {i : Int} {c : Nat} {G : Gh} (hz : z.length ≤ 1000000) (e : L2.atI z.cps.toList i = some c) : opIx (.str z) (.int i) G = some (.str ⟨#[c]⟩, G) := by
  unfold opIx ixD
  dsimp only
  rw [if_pos (sz1 hz), e]; rfl
theorem len_str {z : Str} {G : Gh} (hz : z.length ≤ 1000000) : lenD (.str z) G = some z.length := by unfold lenD; dsimp only; rw [if_pos (sz1 hz)]
end Lw
namespace Lw
open PySem PySem.Spec PyProof.Rows L2 Mi
/-! is_name, check_name -/
theorem is_name_short (z : Str) (G : Gh) (hz : z.length ≤ 1000000) (h : ¬ (1 ≤ z.length ∧ z.length ≤ 12)) : m_is_name [.str z] G = .ok (.bl false) G := by
  apply eq_of_sat
  unfold m_is_name b_is_name
  rw [w_fun]
  refine ⟨rfl, ?_⟩
  rw [q_is_name_1, w_seq]; simp only [w_ok, w_c, w_v, w_op, w_un, w_b, w_nil, w_cons, w_call, w_tup, w_lst, w_dct0, w_fld, w_meth, w_make, w_mt, w_get2, w_tru, w_asB, w_not, w_and, w_or, w_chain, w_andV, w_orV, w_notV, w_if, w_isi, w_pNone, w_pSome, w_sl, w_nx, w_brk, w_cnt, w_drop, w_ret, w_retN, w_sif, w_raise, gmN, gmT, gmAll, w_asg, w_sfld, w_ssub, w_saug, w_for, w_iseq, w_irng1, w_irng2, slotQ_some, opQ_some, opD_some, getQ_some, opB_some, blQ_bl, tyQ_some, inQ_int, evQ_some, ghQ_some, List.getElem?_cons_zero, List.getElem?_cons_succ, List.set_cons_zero, List.set_cons_succ, List.map_cons, List.map_nil, List.cons_append, List.nil_append, List.replicate, List.length_cons, List.length_nil, o_add, o_sub, o_lt, o_le, o_gt, o_ge, o_les, o_eq, o_ne, o_eqs, o_nes, o_eqb, o_neb, o_is, o_isNot, o_iadd, o_neg, b_int, b_min, b_max, b_len (len_str hz)]
  by_cases h1 : 1 ≤ z.length
  · have h2 : ¬ ((z.length : Int) ≤ 12) := by omega
    have h3 : (1 : Int) ≤ (z.length : Int) := by omega
    simp [h2, h3]
  · have h3 : ¬ (1 : Int) ≤ (z.length : Int) := by omega
    simp [h3]
theorem bls_map {α : Type} (f : α → Bool) : ∀ l : List α, blsD (l.map fun c => D.bl (f c)) = some (l.map f)
  | [] => rfl
  | a :: l => by rw [List.map_cons, blsD, bls_map f l]; rfl
theorem b_all {G : Gh} {p : Nat} {α : Type} (f : α → Bool) (l : List α) (h : G.ob p = .lst (l.map fun c => D.bl (f c))) : bAll [.ref p] G = some (.bl (l.all f), G) := by
  unfold bAll lstD
  dsimp only
  rw [h]
  dsimp only [Option.bind_some]
  rw [bls_map, Option.map_some, List.all_map]
  rfl
theorem memL (c : Nat) (G : Gh) : opIn (.str ⟨#[c]⟩) (.str "abcdefghijklmnopqrstuvwxyz") G = some (.bl (decide (c ∈ LET)), G) := rfl
theorem memDg (c : Nat) (G : Gh) : opIn (.str ⟨#[c]⟩) (.str "0123456789") G = some (.bl (decide (c ∈ DIG)), G) := rfl
theorem nmemL (c : Nat) (G : Gh) : opNotIn (.str ⟨#[c]⟩) (.str "abcdefghijklmnopqrstuvwxyz") G = some (.bl (!decide (c ∈ LET)), G) := rfl
theorem lc_name (z : Str) (G : Gh) (hz : z.length ≤ 1000000) : (eLc (iSeq (eVar 0)) (gmN 1) bYes (eOrV (eOp opIn (eVar 1) (eC (.str "abcdefghijklmnopqrstuvwxyz"))) (eOp opIn (eVar 1) (eC (.str "0123456789")))) [1] [some (.str z), none] G) = .ok (.ref G.n) (G.push (.lst (z.cps.toList.map fun c => .bl (aln c)))) := by
  apply eq_of_sat
  rw [w_lc, w_iseq, w_v, List.getElem?_cons_zero, slotQ_some]
  show imQ (seqI (.str z) G) _
  show (loopC _ _ _ _ G.n _ z.cps.size 0 (G.push (.lst []))).sat _ _
  refine lc_sat (xs := z.cps.toList.map fun c => D.str ⟨#[c]⟩) (fun i G' => G' = G.push (.lst ((z.cps.toList.take i).map fun c => .bl (aln c)))) (fun i G' _ p => ?_) (fun i d G' hd p => ?_) (fun G' p => ?_) _ 0 _ (by simp) rfl
  · show some (z.cps[i]?.map fun c => D.str ⟨#[c]⟩) = _
    rw [List.getElem?_map]
    simp
  · subst p
    rw [List.getElem?_map] at hd
    obtain ⟨c, e1, rfl⟩ := Option.map_eq_some_iff.mp hd
    simp only [wipeE, gmN, evQ_some, List.set_cons_zero, List.set_cons_succ, w_yes, if_true, w_orV, w_op, w_v, w_c, List.getElem?_cons_zero, List.getElem?_cons_succ, slotQ_some, memL, memDg, opQ_some, truD, opB_some]
    have fin : ∀ b : Bool, b = aln c → lstQ ((G.push (.lst ((z.cps.toList.take i).map fun c => .bl (aln c)))).ob G.n) fun acc => acc.length < sizeLine ∧ (G.push (.lst ((z.cps.toList.take i).map fun c => .bl (aln c)))).set G.n (.lst (acc ++ [.bl b])) = G.push (.lst ((z.cps.toList.take (i + 1)).map fun c => .bl (aln c))) := fun b hb => by
      have hi : i < z.cps.toList.length := (List.getElem?_eq_some_iff.mp e1).1
      refine lstQ_of (ob_push_same _ _) ⟨sz2 ?_, ?_⟩
      · rw [List.length_map, List.length_take]
        have : z.cps.toList.length = z.length := by simp [Str.length]
        omega
      · rw [push_set, List.take_succ, e1, hb]
        simp
    split
    · rename_i h; exact fin _ (by unfold aln; rw [h]; rfl)
    · rename_i h; exact fin _ (by unfold aln; rw [Bool.not_eq_true _ |>.mp h]; rfl)
  · subst p
    rw [List.length_map, List.take_length]
    exact ⟨rfl, rfl⟩
theorem is_name_long (z : Str) (G : Gh) (h : 1 ≤ z.length ∧ z.length ≤ 12) : ∃ G', m_is_name [.str z] G = .ok (.bl (nameB z.cps.toList)) G' ∧ Fr G G' := by
  have hz : z.length ≤ 1000000 := by omega
  have hl : z.cps.toList.length = z.length := by simp [Str.length]
  obtain ⟨c0, t0, hc⟩ : ∃ c0 t0, z.cps.toList = c0 :: t0 := by
    cases e : z.cps.toList with
    | nil => rw [e] at hl; simp at hl; omega
    | cons c t => exact ⟨c, t, rfl⟩
  have i0 : opIx (.str z) (.int 0) G = some (.str ⟨#[c0]⟩, G) := ix_str hz (atI_int (Int.le_refl 0) (by rw [hc]; rfl))
  have d1 : decide ((1 : Int) ≤ (z.length : Int)) = true := decide_eq_true (by omega)
  have d2 : decide ((z.length : Int) ≤ 12) = true := decide_eq_true (by omega)
  have hn : nameB z.cps.toList = (decide (c0 ∈ LET) && z.cps.toList.all aln) := by
    unfold nameB
    rw [hl, decide_eq_true h, hc]
    rfl
  have key : (m_is_name [.str z] G).sat (fun d G' => d = .bl (nameB z.cps.toList) ∧ Fr G G') nE := by
    unfold m_is_name b_is_name
    rw [w_fun]
    refine ⟨rfl, ?_⟩
    rw [q_is_name_1, w_seq]; simp only [w_ok, w_c, w_v, w_op, w_un, w_b, w_nil, w_cons, w_call, w_tup, w_lst, w_dct0, w_fld, w_meth, w_make, w_mt, w_get2, w_tru, w_asB, w_not, w_and, w_or, w_chain, w_andV, w_orV, w_notV, w_if, w_isi, w_pNone, w_pSome, w_sl, w_nx, w_brk, w_cnt, w_drop, w_ret, w_retN, w_sif, w_raise, gmN, gmT, gmAll, w_asg, w_sfld, w_ssub, w_saug, w_for, w_iseq, w_irng1, w_irng2, slotQ_some, opQ_some, opD_some, getQ_some, opB_some, blQ_bl, tyQ_some, inQ_int, evQ_some, ghQ_some, List.getElem?_cons_zero, List.getElem?_cons_succ, List.set_cons_zero, List.set_cons_succ, List.map_cons, List.map_nil, List.cons_append, List.nil_append, List.replicate, List.length_cons, List.length_nil, o_add, o_sub, o_lt, o_le, o_gt, o_ge, o_les, o_eq, o_ne, o_eqs, o_nes, o_eqb, o_neb, o_is, o_isNot, o_iadd, o_neg, b_int, b_min, b_max, b_len (len_str hz), d1, d2, if_true, Bool.not_true, Bool.false_eq_true, if_false, i0, nmemL, lc_name z G hz, b_all aln z.cps.toList (ob_push_same _ _)]
    cases e : decide (c0 ∈ LET) with
    | false =>
      rw [if_pos (by decide), hn, e]
      exact ⟨rfl, Fr.refl _⟩
    | true =>
      rw [if_neg (by decide), hn, e]
      exact ⟨rfl, Fr.push _ _⟩
  obtain ⟨d, G', e, rfl, f⟩ := Rs.ok_of key
  exact ⟨G', e, f⟩
/-- any text that is not too long -/
theorem is_name_eq (z : Str) (G : Gh) (hz : z.length ≤ 1000000) : ∃ G', m_is_name [.str z] G = .ok (.bl (nameB z.cps.toList)) G' ∧ Fr G G' := by
  by_cases h : 1 ≤ z.length ∧ z.length ≤ 12
  · exact is_name_long z G h
  · refine ⟨G, ?_, Fr.refl _⟩
    rw [is_name_short z G hz h]
    have hl : z.cps.toList.length = z.length := by simp [Str.length]
    unfold nameB
    rw [hl, decide_eq_false h]
    rfl
theorem check_name_ok (z : Str) (G : Gh) (hz : z.length ≤ 1000000) (h : nameB z.cps.toList = true) : ∃ G', m_check_name [.str z] G = .ok .non G' ∧ Fr G G' := by
  obtain ⟨G', e, f⟩ := is_name_eq z G hz
  rw [h] at e
  refine ⟨G', ?_, f⟩
  apply eq_of_sat
  unfold m_check_name b_check_name
  rw [w_fun]
  refine ⟨rfl, ?_⟩
  simp only [w_ok, w_c, w_v, w_op, w_un, w_b, w_nil, w_cons, w_call, w_tup, w_lst, w_dct0, w_fld, w_meth, w_make, w_mt, w_get2, w_tru, w_asB, w_not, w_and, w_or, w_chain, w_andV, w_orV, w_notV, w_if, w_isi, w_pNone, w_pSome, w_sl, w_nx, w_brk, w_cnt, w_drop, w_ret, w_retN, w_sif, w_raise, gmN, gmT, gmAll, w_asg, w_sfld, w_ssub, w_saug, w_for, w_iseq, w_irng1, w_irng2, slotQ_some, opQ_some, opD_some, getQ_some, opB_some, blQ_bl, tyQ_some, inQ_int, evQ_some, ghQ_some, List.getElem?_cons_zero, List.getElem?_cons_succ, List.set_cons_zero, List.set_cons_succ, List.map_cons, List.map_nil, List.cons_append, List.nil_append, List.replicate, List.length_cons, List.length_nil, o_add, o_sub, o_lt, o_le, o_gt, o_ge, o_les, o_eq, o_ne, o_eqs, o_nes, o_eqb, o_neb, o_is, o_isNot, o_iadd, o_neg, b_int, b_min, b_max, e, truD, Bool.not_true, Bool.false_eq_true, if_false]
  refine ⟨?_, ?_⟩ <;> first | rfl | trivial
theorem check_name_er (z : Str) (G : Gh) (hz : z.length ≤ 1000000) (h : nameB z.cps.toList = false) : ∃ G', m_check_name [.str z] G = .er 1 G' ∧ Fr G G' := by
  obtain ⟨G', e, f⟩ := is_name_eq z G hz
  rw [h] at e
  refine ⟨G', ?_, f⟩
  apply eq_of_er
  unfold m_check_name b_check_name
  rw [w_fun]
  refine ⟨rfl, ?_⟩
  simp only [w_ok, w_c, w_v, w_op, w_un, w_b, w_nil, w_cons, w_call, w_tup, w_lst, w_dct0, w_fld, w_meth, w_make, w_mt, w_get2, w_tru, w_asB, w_not, w_and, w_or, w_chain, w_andV, w_orV, w_notV, w_if, w_isi, w_pNone, w_pSome, w_sl, w_nx, w_brk, w_cnt, w_drop, w_ret, w_retN, w_sif, w_raise, gmN, gmT, gmAll, w_asg, w_sfld, w_ssub, w_saug, w_for, w_iseq, w_irng1, w_irng2, slotQ_some, opQ_some, opD_some, getQ_some, opB_some, blQ_bl, tyQ_some, inQ_int, evQ_some, ghQ_some, List.getElem?_cons_zero, List.getElem?_cons_succ, List.set_cons_zero, List.set_cons_succ, List.map_cons, List.map_nil, List.cons_append, List.nil_append, List.replicate, List.length_cons, List.length_nil, o_add, o_sub, o_lt, o_le, o_gt, o_ge, o_les, o_eq, o_ne, o_eqs, o_nes, o_eqb, o_neb, o_is, o_isNot, o_iadd, o_neg, b_int, b_min, b_max, e, truD, Bool.not_false, if_true]
  refine ⟨?_, ?_⟩ <;> first | rfl | trivial
end Lw
namespace Lw
open PySem PySem.Spec PyProof.Rows L2 Mi
/-! names that the law makes -/
def nmS (l : List Nat) : Str := ⟨l.toArray⟩
theorem nm_cps (l : List Nat) : (nmS l).cps.toList = l := rfl
theorem nm_len (l : List Nat) : (nmS l).length = l.length := rfl
theorem nm_app (a b : List Nat) : nmS a ++ nmS b = nmS (a ++ b) := by
  show (⟨a.toArray ++ b.toArray⟩ : Str) = ⟨(a ++ b).toArray⟩
  rw [List.append_toArray]
theorem nm_cat {a b : List Nat} {G : Gh} (h : a.length + b.length ≤ 1000000) : opAdd (.str (nmS a)) (.str (nmS b)) G = some (.str (nmS (a ++ b)), G) := by
  rw [o_adds (sz1 (by rw [nm_len, nm_len]; exact h)), nm_app]
theorem sig_get {k : Nat} (h : k < 36) : SIG[k]? = some (SIG.getD k 0) := by
  rw [List.getD_eq_getElem?_getD, List.getElem?_eq_getElem (show k < SIG.length by rw [sig_len]; exact h)]
  rfl
theorem sig_ix {i : Int} {G : Gh} (h : 0 ≤ i ∧ i < 36) : opIx (.str "abcdefghijklmnopqrstuvwxyz0123456789") (.int i) G = some (.str (nmS [SIG.getD i.toNat 0]), G) :=
  ix_str (z := "abcdefghijklmnopqrstuvwxyz0123456789") (by decide +kernel) (atI_int h.1 (sig_get (by omega)))
theorem sig36 (i : Int) (G : Gh) : opIx (.str "abcdefghijklmnopqrstuvwxyz0123456789") (.int (i % 36)) G = some (.str (nmS [SIG.getD (i % 36).toNat 0]), G) := sig_ix (by omega)
theorem sig26 (i : Int) (G : Gh) : opIx (.str "abcdefghijklmnopqrstuvwxyz0123456789") (.int (i % 26)) G = some (.str (nmS [SIG.getD (i % 26).toNat 0]), G) := sig_ix (by omega)
theorem aln36 (i : Int) : aln (SIG.getD (i % 36).toNat 0) = true := sig_aln ⟨(i % 36).toNat, by omega⟩
theorem let26 (i : Int) : SIG.getD (i % 26).toNat 0 ∈ LET := sig_let ⟨(i % 26).toNat, by omega⟩
theorem let_aln {c : Nat} (h : c ∈ LET) : aln c = true := by unfold aln; rw [decide_eq_true h]; rfl
/-- a name's signs -/
def Gn (l : List Nat) : Prop := (∃ c t, l = c :: t ∧ c ∈ LET) ∧ ∀ c ∈ l, aln c = true
theorem Gn.name {l : List Nat} (h : Gn l) (hl : l.length ≤ 12) : nameB l = true := by
  obtain ⟨⟨c, t, rfl, h1⟩, h2⟩ := h
  unfold nameB
  rw [decide_eq_true (show 1 ≤ (c :: t).length ∧ (c :: t).length ≤ 12 from ⟨by rw [List.length_cons]; omega, hl⟩), List.all_eq_true.mpr h2]
  dsimp only
  rw [decide_eq_true h1]; rfl
theorem nameB_gn {l : List Nat} (h : nameB l = true) : Gn l ∧ 1 ≤ l.length ∧ l.length ≤ 12 := by
  unfold nameB at h
  cases l with
  | nil => simp at h
  | cons c t =>
    rw [Bool.and_eq_true, Bool.and_eq_true] at h
    obtain ⟨⟨h1, h2⟩, h3⟩ := h
    exact ⟨⟨⟨c, t, rfl, of_decide_eq_true h2⟩, List.all_eq_true.mp h3⟩, of_decide_eq_true h1⟩
theorem name_eq (n s : Int) (h : 1 ≤ s ∧ s ≤ 12) (G : Gh) : ∃ l : List Nat, nameB l = true ∧ (l.length : Int) = s ∧ m_law_name [.int n, .int s] G = .ok (.str (nmS l)) G := by
  have key : (m_law_name [.int n, .int s] G).sat (fun d G' => ∃ l : List Nat, nameB l = true ∧ (l.length : Int) = s ∧ d = .str (nmS l) ∧ G' = G) nE := by
    unfold m_law_name b_law_name
    rw [w_fun]
    refine ⟨rfl, ?_⟩
    rw [q_law_name_2, w_seq]; simp only [w_ok, w_c, w_v, w_op, w_un, w_b, w_nil, w_cons, w_call, w_tup, w_lst, w_dct0, w_fld, w_meth, w_make, w_mt, w_get2, w_tru, w_asB, w_not, w_and, w_or, w_chain, w_andV, w_orV, w_notV, w_if, w_isi, w_pNone, w_pSome, w_sl, w_nx, w_brk, w_cnt, w_drop, w_ret, w_retN, w_sif, w_raise, gmN, gmT, gmAll, w_asg, w_sfld, w_ssub, w_saug, w_for, w_iseq, w_irng1, w_irng2, slotQ_some, opQ_some, opD_some, getQ_some, opB_some, blQ_bl, tyQ_some, inQ_int, evQ_some, ghQ_some, List.getElem?_cons_zero, List.getElem?_cons_succ, List.set_cons_zero, List.set_cons_succ, List.map_cons, List.map_nil, List.cons_append, List.nil_append, List.replicate, List.length_cons, List.length_nil, o_add, o_sub, o_lt, o_le, o_gt, o_ge, o_les, o_eq, o_ne, o_eqs, o_nes, o_eqb, o_neb, o_is, o_isNot, o_iadd, o_neg, b_int, b_min, b_max]
    rw [q_law_name_3, w_seq]; simp only [w_ok, w_c, w_v, w_op, w_un, w_b, w_nil, w_cons, w_call, w_tup, w_lst, w_dct0, w_fld, w_meth, w_make, w_mt, w_get2, w_tru, w_asB, w_not, w_and, w_or, w_chain, w_andV, w_orV, w_notV, w_if, w_isi, w_pNone, w_pSome, w_sl, w_nx, w_brk, w_cnt, w_drop, w_ret, w_retN, w_sif, w_raise, gmN, gmT, gmAll, w_asg, w_sfld, w_ssub, w_saug, w_for, w_iseq, w_irng1, w_irng2, slotQ_some, opQ_some, opD_some, getQ_some, opB_some, blQ_bl, tyQ_some, inQ_int, evQ_some, ghQ_some, List.getElem?_cons_zero, List.getElem?_cons_succ, List.set_cons_zero, List.set_cons_succ, List.map_cons, List.map_nil, List.cons_append, List.nil_append, List.replicate, List.length_cons, List.length_nil, o_add, o_sub, o_lt, o_le, o_gt, o_ge, o_les, o_eq, o_ne, o_eqs, o_nes, o_eqb, o_neb, o_is, o_isNot, o_iadd, o_neg, b_int, b_min, b_max, o_mod (show (0 : Int) < 26 by decide), sig26]
    rw [q_law_name_4, w_seq]; simp only [w_ok, w_c, w_v, w_op, w_un, w_b, w_nil, w_cons, w_call, w_tup, w_lst, w_dct0, w_fld, w_meth, w_make, w_mt, w_get2, w_tru, w_asB, w_not, w_and, w_or, w_chain, w_andV, w_orV, w_notV, w_if, w_isi, w_pNone, w_pSome, w_sl, w_nx, w_brk, w_cnt, w_drop, w_ret, w_retN, w_sif, w_raise, gmN, gmT, gmAll, w_asg, w_sfld, w_ssub, w_saug, w_for, w_iseq, w_irng1, w_irng2, slotQ_some, opQ_some, opD_some, getQ_some, opB_some, blQ_bl, tyQ_some, inQ_int, evQ_some, ghQ_some, List.getElem?_cons_zero, List.getElem?_cons_succ, List.set_cons_zero, List.set_cons_succ, List.map_cons, List.map_nil, List.cons_append, List.nil_append, List.replicate, List.length_cons, List.length_nil, o_add, o_sub, o_lt, o_le, o_gt, o_ge, o_les, o_eq, o_ne, o_eqs, o_nes, o_eqb, o_neb, o_is, o_isNot, o_iadd, o_neg, b_int, b_min, b_max, o_fdiv (show (0 : Int) < 26 ∧ _ by decide)]
    rw [q_law_name_5, w_seq]; simp only [w_ok, w_c, w_v, w_op, w_un, w_b, w_nil, w_cons, w_call, w_tup, w_lst, w_dct0, w_fld, w_meth, w_make, w_mt, w_get2, w_tru, w_asB, w_not, w_and, w_or, w_chain, w_andV, w_orV, w_notV, w_if, w_isi, w_pNone, w_pSome, w_sl, w_nx, w_brk, w_cnt, w_drop, w_ret, w_retN, w_sif, w_raise, gmN, gmT, gmAll, w_asg, w_sfld, w_ssub, w_saug, w_for, w_iseq, w_irng1, w_irng2, slotQ_some, opQ_some, opD_some, getQ_some, opB_some, blQ_bl, tyQ_some, inQ_int, evQ_some, ghQ_some, List.getElem?_cons_zero, List.getElem?_cons_succ, List.set_cons_zero, List.set_cons_succ, List.map_cons, List.map_nil, List.cons_append, List.nil_append, List.replicate, List.length_cons, List.length_nil, o_add, o_sub, o_lt, o_le, o_gt, o_ge, o_les, o_eq, o_ne, o_eqs, o_nes, o_eqb, o_neb, o_is, o_isNot, o_iadd, o_neg, b_int, b_min, b_max, rng1]
    refine rng_sat ⟨by omega⟩ (fun k e G' => ∃ (l : List Nat) (r : Int) (y : Option D), l.length = k + 1 ∧ Gn l ∧ e = [some (.int n), some (.int s), some (.str "abcdefghijklmnopqrstuvwxyz0123456789"), some (.str (nmS l)), some (.int r), y] ∧ G' = G) ⟨_, _, none, rfl, ⟨⟨_, _, rfl, let26 n⟩, fun c hc => by rw [List.mem_singleton] at hc; rw [hc]; exact let_aln (let26 n)⟩, rfl, rfl⟩ ?_ ?_
    · rintro k e G' hk ⟨l, r, y, hl, hg, rfl, rfl⟩
      simp only [gmN, evQ_some, List.set_cons_succ, List.set_cons_zero]
      rw [q_law_name_1, w_seq]; simp only [w_ok, w_c, w_v, w_op, w_un, w_b, w_nil, w_cons, w_call, w_tup, w_lst, w_dct0, w_fld, w_meth, w_make, w_mt, w_get2, w_tru, w_asB, w_not, w_and, w_or, w_chain, w_andV, w_orV, w_notV, w_if, w_isi, w_pNone, w_pSome, w_sl, w_nx, w_brk, w_cnt, w_drop, w_ret, w_retN, w_sif, w_raise, gmN, gmT, gmAll, w_asg, w_sfld, w_ssub, w_saug, w_for, w_iseq, w_irng1, w_irng2, slotQ_some, opQ_some, opD_some, getQ_some, opB_some, blQ_bl, tyQ_some, inQ_int, evQ_some, ghQ_some, List.getElem?_cons_zero, List.getElem?_cons_succ, List.set_cons_zero, List.set_cons_succ, List.map_cons, List.map_nil, List.cons_append, List.nil_append, List.replicate, List.length_cons, List.length_nil, o_add, o_sub, o_lt, o_le, o_gt, o_ge, o_les, o_eq, o_ne, o_eqs, o_nes, o_eqb, o_neb, o_is, o_isNot, o_iadd, o_neg, b_int, b_min, b_max, o_mul (cmulL (show -(2 ^ 64) < (7 : Int) ∧ _ by decide)), o_mod (show (0 : Int) < 36 by decide), sig36]
      rw [nm_cat (by rw [List.length_singleton]; omega)]
      simp only [w_ok, w_c, w_v, w_op, w_un, w_b, w_nil, w_cons, w_call, w_tup, w_lst, w_dct0, w_fld, w_meth, w_make, w_mt, w_get2, w_tru, w_asB, w_not, w_and, w_or, w_chain, w_andV, w_orV, w_notV, w_if, w_isi, w_pNone, w_pSome, w_sl, w_nx, w_brk, w_cnt, w_drop, w_ret, w_retN, w_sif, w_raise, gmN, gmT, gmAll, w_asg, w_sfld, w_ssub, w_saug, w_for, w_iseq, w_irng1, w_irng2, slotQ_some, opQ_some, opD_some, getQ_some, opB_some, blQ_bl, tyQ_some, inQ_int, evQ_some, ghQ_some, List.getElem?_cons_zero, List.getElem?_cons_succ, List.set_cons_zero, List.set_cons_succ, List.map_cons, List.map_nil, List.cons_append, List.nil_append, List.replicate, List.length_cons, List.length_nil, o_add, o_sub, o_lt, o_le, o_gt, o_ge, o_les, o_eq, o_ne, o_eqs, o_nes, o_eqb, o_neb, o_is, o_isNot, o_iadd, o_neg, b_int, b_min, b_max, o_fdiv (show (0 : Int) < 36 ∧ _ by decide)]
      refine ⟨_, _, _, by rw [List.length_append, hl]; rfl, ⟨?_, fun c hc => ?_⟩, rfl, trivial⟩
      · obtain ⟨⟨c, t, e1, h1⟩, _⟩ := hg
        subst e1
        exact ⟨c, _, rfl, h1⟩
      · rcases List.mem_append.mp hc with hc | hc
        · exact hg.2 c hc
        · rw [List.mem_singleton] at hc; rw [hc]; exact aln36 _
    · rintro e G' ⟨l, r, y, hl, hg, rfl, rfl⟩
      simp only [w_ok, w_c, w_v, w_op, w_un, w_b, w_nil, w_cons, w_call, w_tup, w_lst, w_dct0, w_fld, w_meth, w_make, w_mt, w_get2, w_tru, w_asB, w_not, w_and, w_or, w_chain, w_andV, w_orV, w_notV, w_if, w_isi, w_pNone, w_pSome, w_sl, w_nx, w_brk, w_cnt, w_drop, w_ret, w_retN, w_sif, w_raise, gmN, gmT, gmAll, w_asg, w_sfld, w_ssub, w_saug, w_for, w_iseq, w_irng1, w_irng2, slotQ_some, opQ_some, opD_some, getQ_some, opB_some, blQ_bl, tyQ_some, inQ_int, evQ_some, ghQ_some, List.getElem?_cons_zero, List.getElem?_cons_succ, List.set_cons_zero, List.set_cons_succ, List.map_cons, List.map_nil, List.cons_append, List.nil_append, List.replicate, List.length_cons, List.length_nil, o_add, o_sub, o_lt, o_le, o_gt, o_ge, o_les, o_eq, o_ne, o_eqs, o_nes, o_eqb, o_neb, o_is, o_isNot, o_iadd, o_neg, b_int, b_min, b_max]
      exact ⟨l, hg.name (by omega), by omega, rfl, trivial⟩
  obtain ⟨d, G', e, l, h1, h2, rfl, rfl⟩ := Rs.ok_of key
  exact ⟨l, h1, h2, e⟩
theorem cut_to {l : List Nat} {p : Nat} {G : Gh} (hl : l.length ≤ 1000000) (hp : p ≤ l.length) : slD (.str (nmS l)) none (some (p : Int)) G = some (.str (nmS (l.take p)), G) := by
  unfold slD
  dsimp only
  rw [if_pos (sz1 (by rw [nm_len]; exact hl))]
  unfold cutS
  rw [HT.sIx_none, HT.sIx_nat, nm_len, nm_cps, Nat.min_eq_left hp]
  rfl
theorem cut_from {l : List Nat} {p : Nat} {G : Gh} (hl : l.length ≤ 1000000) (hp : p ≤ l.length) : slD (.str (nmS l)) (some (p : Int)) none G = some (.str (nmS (l.drop p)), G) := by
  unfold slD
  dsimp only
  rw [if_pos (sz1 (by rw [nm_len]; exact hl))]
  unfold cutS
  rw [HT.sIx_none, HT.sIx_nat, nm_len, nm_cps, Nat.min_eq_left hp, List.take_of_length_le (by rw [List.length_drop]; exact Nat.le_refl _)]
  rfl
theorem other_eq (l : List Nat) (n : Int) (x y : Nat) (G : Gh) (hl : nameB l = true) (hx : x ∈ LET) (hy : y ∈ LET) : ∃ l', nameB l' = true ∧ m_law_other [.str (nmS l), .int n, .str (nmS [x]), .str (nmS [y])] G = .ok (.str (nmS l')) G := by
  obtain ⟨hg, hl1, hl2⟩ := nameB_gn hl
  obtain ⟨p, hp, hpl⟩ : ∃ p : Nat, n % (l.length : Int) = (p : Int) ∧ p < l.length := by
    have h1 := Int.emod_nonneg n (show (l.length : Int) ≠ 0 by omega)
    have h2 := Int.emod_lt_of_pos n (show (0 : Int) < (l.length : Int) by omega)
    exact ⟨(n % (l.length : Int)).toNat, by omega, by omega⟩
  have good : ∀ c, c ∈ LET → nameB (l.take p ++ [c] ++ l.drop (p + 1)) = true := fun c hc => by
    refine Gn.name ⟨?_, fun d hd => ?_⟩ (by rw [List.length_append, List.length_append, List.length_take, List.length_drop, List.length_singleton]; omega)
    · cases p with
      | zero => exact ⟨c, _, rfl, hc⟩
      | succ p =>
        obtain ⟨⟨c1, t1, e1, h1⟩, _⟩ := hg
        rw [e1]
        exact ⟨c1, _, rfl, h1⟩
    · rcases List.mem_append.mp hd with hd | hd
      · rcases List.mem_append.mp hd with hd | hd
        · exact hg.2 d (List.mem_of_mem_take hd)
        · rw [List.mem_singleton] at hd; rw [hd]; exact let_aln hc
      · exact hg.2 d (List.mem_of_mem_drop hd)
  have ixp : opIx (.str (nmS l)) (.int (p : Int)) G = some (.str (nmS [l[p]]), G) := ix_str (z := nmS l) (by rw [nm_len]; omega) (by rw [nm_cps]; exact atI_natG hpl)
  have cat : ∀ c : Nat, opAdd (.str (nmS (l.take p))) (.str (nmS [c])) G = some (.str (nmS (l.take p ++ [c])), G) := fun c => nm_cat (by rw [List.length_take, List.length_singleton]; omega)
  have cat2 : ∀ c : Nat, opAdd (.str (nmS (l.take p ++ [c]))) (.str (nmS (l.drop (p + 1)))) G = some (.str (nmS (l.take p ++ [c] ++ l.drop (p + 1))), G) := fun c => nm_cat (by rw [List.length_append, List.length_take, List.length_drop, List.length_singleton]; omega)
  have c1 : slD (.str (nmS l)) none (some (p : Int)) G = some (.str (nmS (l.take p)), G) := cut_to (by omega) (by omega)
  have c2 : slD (.str (nmS l)) (some ((p : Int) + 1)) none G = some (.str (nmS (l.drop (p + 1))), G) := cut_from (p := p + 1) (by omega) (by omega)
  have key : (m_law_other [.str (nmS l), .int n, .str (nmS [x]), .str (nmS [y])] G).sat (fun d G' => ∃ l', nameB l' = true ∧ d = .str (nmS l') ∧ G' = G) nE := by
    unfold m_law_other b_law_other
    rw [w_fun]
    refine ⟨rfl, ?_⟩
    rw [q_law_other_1, w_seq]; simp only [w_ok, w_c, w_v, w_op, w_un, w_b, w_nil, w_cons, w_call, w_tup, w_lst, w_dct0, w_fld, w_meth, w_make, w_mt, w_get2, w_tru, w_asB, w_not, w_and, w_or, w_chain, w_andV, w_orV, w_notV, w_if, w_isi, w_pNone, w_pSome, w_sl, w_nx, w_brk, w_cnt, w_drop, w_ret, w_retN, w_sif, w_raise, gmN, gmT, gmAll, w_asg, w_sfld, w_ssub, w_saug, w_for, w_iseq, w_irng1, w_irng2, slotQ_some, opQ_some, opD_some, getQ_some, opB_some, blQ_bl, tyQ_some, inQ_int, evQ_some, ghQ_some, List.getElem?_cons_zero, List.getElem?_cons_succ, List.set_cons_zero, List.set_cons_succ, List.map_cons, List.map_nil, List.cons_append, List.nil_append, List.replicate, List.length_cons, List.length_nil, o_add, o_sub, o_lt, o_le, o_gt, o_ge, o_les, o_eq, o_ne, o_eqs, o_nes, o_eqb, o_neb, o_is, o_isNot, o_iadd, o_neg, b_int, b_min, b_max, b_len (len_str (z := nmS l) (by rw [nm_len]; omega)), nm_len, o_mod (show (0 : Int) < (l.length : Int) by omega), hp]
    rw [q_law_other_2, w_seq]; simp only [w_ok, w_c, w_v, w_op, w_un, w_b, w_nil, w_cons, w_call, w_tup, w_lst, w_dct0, w_fld, w_meth, w_make, w_mt, w_get2, w_tru, w_asB, w_not, w_and, w_or, w_chain, w_andV, w_orV, w_notV, w_if, w_isi, w_pNone, w_pSome, w_sl, w_nx, w_brk, w_cnt, w_drop, w_ret, w_retN, w_sif, w_raise, gmN, gmT, gmAll, w_asg, w_sfld, w_ssub, w_saug, w_for, w_iseq, w_irng1, w_irng2, slotQ_some, opQ_some, opD_some, getQ_some, opB_some, blQ_bl, tyQ_some, inQ_int, evQ_some, ghQ_some, List.getElem?_cons_zero, List.getElem?_cons_succ, List.set_cons_zero, List.set_cons_succ, List.map_cons, List.map_nil, List.cons_append, List.nil_append, List.replicate, List.length_cons, List.length_nil, o_add, o_sub, o_lt, o_le, o_gt, o_ge, o_les, o_eq, o_ne, o_eqs, o_nes, o_eqb, o_neb, o_is, o_isNot, o_iadd, o_neg, b_int, b_min, b_max, ixp]
    split
    · simp only [c1, c2, cat, cat2, w_ok, w_c, w_v, w_op, w_un, w_b, w_nil, w_cons, w_call, w_tup, w_lst, w_dct0, w_fld, w_meth, w_make, w_mt, w_get2, w_tru, w_asB, w_not, w_and, w_or, w_chain, w_andV, w_orV, w_notV, w_if, w_isi, w_pNone, w_pSome, w_sl, w_nx, w_brk, w_cnt, w_drop, w_ret, w_retN, w_sif, w_raise, gmN, gmT, gmAll, w_asg, w_sfld, w_ssub, w_saug, w_for, w_iseq, w_irng1, w_irng2, slotQ_some, opQ_some, opD_some, getQ_some, opB_some, blQ_bl, tyQ_some, inQ_int, evQ_some, ghQ_some, List.getElem?_cons_zero, List.getElem?_cons_succ, List.set_cons_zero, List.set_cons_succ, List.map_cons, List.map_nil, List.cons_append, List.nil_append, List.replicate, List.length_cons, List.length_nil, o_add, o_sub, o_lt, o_le, o_gt, o_ge, o_les, o_eq, o_ne, o_eqs, o_nes, o_eqb, o_neb, o_is, o_isNot, o_iadd, o_neg, b_int, b_min, b_max]
      exact ⟨_, good y hy, by first | rfl | trivial, by first | rfl | trivial⟩
    · simp only [c1, c2, cat, cat2, w_ok, w_c, w_v, w_op, w_un, w_b, w_nil, w_cons, w_call, w_tup, w_lst, w_dct0, w_fld, w_meth, w_make, w_mt, w_get2, w_tru, w_asB, w_not, w_and, w_or, w_chain, w_andV, w_orV, w_notV, w_if, w_isi, w_pNone, w_pSome, w_sl, w_nx, w_brk, w_cnt, w_drop, w_ret, w_retN, w_sif, w_raise, gmN, gmT, gmAll, w_asg, w_sfld, w_ssub, w_saug, w_for, w_iseq, w_irng1, w_irng2, slotQ_some, opQ_some, opD_some, getQ_some, opB_some, blQ_bl, tyQ_some, inQ_int, evQ_some, ghQ_some, List.getElem?_cons_zero, List.getElem?_cons_succ, List.set_cons_zero, List.set_cons_succ, List.map_cons, List.map_nil, List.cons_append, List.nil_append, List.replicate, List.length_cons, List.length_nil, o_add, o_sub, o_lt, o_le, o_gt, o_ge, o_les, o_eq, o_ne, o_eqs, o_nes, o_eqb, o_neb, o_is, o_isNot, o_iadd, o_neg, b_int, b_min, b_max]
      exact ⟨_, good x hx, by first | rfl | trivial, by first | rfl | trivial⟩
  obtain ⟨d, G', e, l', h1, rfl, rfl⟩ := Rs.ok_of key
  exact ⟨l', h1, e⟩
end Lw
namespace Lw
open PySem PySem.Spec PyProof.Rows L2 Mi
/-! rows of a rule -/
abbrev Rw := Int × Int × Str
def rowD (r : Rw) : D := .tup [.int r.1, .int r.2.1, .str r.2.2]
/-- texts that can be laid out -/
def SOk (rows : List Rw) : Prop := ∀ r ∈ rows, PyData.strOk r.2.2 = true
theorem SOk.set {rows : List Rw} (h : SOk rows) (i : Nat) (a b : Int) (c : Str) (hc : PyData.strOk c = true) : SOk (rows.set i (a, b, c)) := fun r hr => by
  rcases List.mem_or_eq_of_mem_set hr with h1 | h1
  · exact h r h1
  · rw [h1]; exact hc
section
variable {G : Gh}
theorem rows_at {l : Nat} {rows : List Rw} {i : Int} {r : Rw} (h : G.ob l = .lst (rows.map rowD)) (h0 : 0 ≤ i) (e : rows[i.toNat]? = some r) : opIx (.ref l) (.int i) G = some (rowD r, G) :=
  ix_lst h (atI_int h0 (by rw [List.getElem?_map, e]; rfl))
theorem row_0 (r : Rw) (G : Gh) : opIx (rowD r) (.int 0) G = some (.int r.1, G) := ix_tup rfl
theorem row_1 (r : Rw) (G : Gh) : opIx (rowD r) (.int 1) G = some (.int r.2.1, G) := ix_tup rfl
theorem row_2 (r : Rw) (G : Gh) : opIx (rowD r) (.int 2) G = some (.str r.2.2, G) := ix_tup rfl
theorem push_ob {R : Nat} {x : Ob} (hR : G.ob R = x) (hn : R < G.n) (o : Ob) : (G.push o).ob R = x := (ob_push_ne _ _ (Nat.ne_of_lt hn)).trans hR
end
end Lw
namespace Lw
open PySem PySem.Spec PyProof.Rows L2 Mi
/-! rules: check_rule and the law's good -/
def roleB (x : Str) : Bool := [D.str "teller", .str "officer", .str "chief"].any fun y => eqF y (.str x)
theorem notin_roles (x : Str) (G : Gh) : opNotIn (.str x) (.tup [.str "teller", .str "officer", .str "chief"]) G = some (.bl (!roleB x), G) := rfl
def chk : Int → List Rw → Bool
  | _, [] => true
  | last, r :: t => !(decide (r.1 ≤ last) || (decide (1000000000 < r.1) || (decide (last < 0) && !decide (r.1 = 0)))) && (decide (0 ≤ r.2.1) && decide (r.2.1 ≤ 5)) && roleB r.2.2 && chk r.1 t
def goodB (R : List Rw) : Bool := decide (1 ≤ R.length ∧ R.length ≤ 6) && chk (-1) R
theorem goodB_len {R : List Rw} (h : goodB R = true) : 1 ≤ R.length ∧ R.length ≤ 6 := by
  unfold goodB at h
  rw [Bool.and_eq_true] at h
  exact of_decide_eq_true h.1
section
variable {G : Gh} {id : Nat} {R : List Rw}
theorem drop_at {α : Type} {l : List α} {k : Nat} {x : α} (h : l[k]? = some x) : l.drop k = x :: l.drop (k + 1) := by
  obtain ⟨h1, h2⟩ := List.getElem?_eq_some_iff.mp h
  rw [List.drop_eq_getElem_cons h1, h2]
theorem rows_get {k : Nat} {d : D} (h : (R.map rowD)[k]? = some d) : ∃ r, R[k]? = some r ∧ d = rowD r := by
  rw [List.getElem?_map] at h
  obtain ⟨r, h1, h2⟩ := Option.map_eq_some_iff.mp h
  exact ⟨r, h1, h2.symm⟩
theorem check_rule_eq (h : G.ob id = .lst (R.map rowD)) : (m_check_rule [.ref id] G).sat (fun d G' => (d = .non ∧ G' = G) ∧ goodB R = true) (fun c G' => (c = 1 ∧ G' = G) ∧ goodB R = false) := by
  have hlen : lenD (.ref id) G = some R.length := (len_lst h).trans (by rw [List.length_map])
  unfold m_check_rule b_check_rule
  rw [w_fun]
  refine ⟨rfl, ?_⟩
  rw [q_check_rule_4, w_seq]; simp only [w_ok, w_c, w_v, w_op, w_un, w_b, w_nil, w_cons, w_call, w_tup, w_lst, w_dct0, w_fld, w_meth, w_make, w_mt, w_get2, w_tru, w_asB, w_not, w_and, w_or, w_chain, w_andV, w_orV, w_notV, w_if, w_isi, w_pNone, w_pSome, w_sl, w_nx, w_brk, w_cnt, w_drop, w_ret, w_retN, w_sif, w_raise, gmN, gmT, gmAll, w_asg, w_sfld, w_ssub, w_saug, w_for, w_iseq, w_irng1, w_irng2, slotQ_some, opQ_some, opD_some, getQ_some, opB_some, blQ_bl, tyQ_some, inQ_int, evQ_some, ghQ_some, List.getElem?_cons_zero, List.getElem?_cons_succ, List.set_cons_zero, List.set_cons_succ, List.map_cons, List.map_nil, List.cons_append, List.nil_append, List.replicate, List.length_cons, List.length_nil, o_add, o_sub, o_lt, o_le, o_gt, o_ge, o_les, o_eq, o_ne, o_eqs, o_nes, o_eqb, o_neb, o_is, o_isNot, o_iadd, o_neg, b_int, b_min, b_max, b_len hlen]
  by_cases hl : 1 ≤ R.length ∧ R.length ≤ 6
  · have d1 : decide ((1 : Int) ≤ (R.length : Int)) = true := decide_eq_true (by omega)
    have d2 : decide ((R.length : Int) ≤ 6) = true := decide_eq_true (by omega)
    have hg : goodB R = chk (-1) R := by unfold goodB; rw [decide_eq_true hl]; rfl
    simp only [d1, d2, if_true, Bool.not_true, Bool.false_eq_true, if_false]
    rw [q_check_rule_5, w_seq]; simp only [w_ok, w_c, w_v, w_op, w_un, w_b, w_nil, w_cons, w_call, w_tup, w_lst, w_dct0, w_fld, w_meth, w_make, w_mt, w_get2, w_tru, w_asB, w_not, w_and, w_or, w_chain, w_andV, w_orV, w_notV, w_if, w_isi, w_pNone, w_pSome, w_sl, w_nx, w_brk, w_cnt, w_drop, w_ret, w_retN, w_sif, w_raise, gmN, gmT, gmAll, w_asg, w_sfld, w_ssub, w_saug, w_for, w_iseq, w_irng1, w_irng2, slotQ_some, opQ_some, opD_some, getQ_some, opB_some, blQ_bl, tyQ_some, inQ_int, evQ_some, ghQ_some, List.getElem?_cons_zero, List.getElem?_cons_succ, List.set_cons_zero, List.set_cons_succ, List.map_cons, List.map_nil, List.cons_append, List.nil_append, List.replicate, List.length_cons, List.length_nil, o_add, o_sub, o_lt, o_le, o_gt, o_ge, o_les, o_eq, o_ne, o_eqs, o_nes, o_eqb, o_neb, o_is, o_isNot, o_iadd, o_neg, b_int, b_min, b_max]
    refine seq_lst_sat h (fun k e G' => G' = G ∧ ∃ (last : Int) (y2 y3 y4 : Option D), e = [some (.ref id), some (.int last), y2, y3, y4] ∧ goodB R = chk last (R.drop k)) ⟨rfl, -1, none, none, none, rfl, by rw [hg]; rfl⟩ (fun k e G' p => by rw [p.1]; exact h) ?_ ?_
    · rintro k d e G' hd ⟨rfl, last, y2, y3, y4, rfl, hc⟩
      obtain ⟨r, hr, rfl⟩ := rows_get hd
      rw [drop_at hr, chk] at hc
      simp only [rowD, gmT, gmAll, gmN, evQ_some, List.set_cons_succ, List.set_cons_zero]
      rw [q_check_rule_1, w_seq]; simp only [w_ok, w_c, w_v, w_op, w_un, w_b, w_nil, w_cons, w_call, w_tup, w_lst, w_dct0, w_fld, w_meth, w_make, w_mt, w_get2, w_tru, w_asB, w_not, w_and, w_or, w_chain, w_andV, w_orV, w_notV, w_if, w_isi, w_pNone, w_pSome, w_sl, w_nx, w_brk, w_cnt, w_drop, w_ret, w_retN, w_sif, w_raise, gmN, gmT, gmAll, w_asg, w_sfld, w_ssub, w_saug, w_for, w_iseq, w_irng1, w_irng2, slotQ_some, opQ_some, opD_some, getQ_some, opB_some, blQ_bl, tyQ_some, inQ_int, evQ_some, ghQ_some, List.getElem?_cons_zero, List.getElem?_cons_succ, List.set_cons_zero, List.set_cons_succ, List.map_cons, List.map_nil, List.cons_append, List.nil_append, List.replicate, List.length_cons, List.length_nil, o_add, o_sub, o_lt, o_le, o_gt, o_ge, o_les, o_eq, o_ne, o_eqs, o_nes, o_eqb, o_neb, o_is, o_isNot, o_iadd, o_neg, b_int, b_min, b_max]
      by_cases h1 : r.1 ≤ last
      · simp only [h1, decide_true, if_true]
        refine ⟨⟨(by first | rfl | trivial), (by first | rfl | trivial)⟩, ?_⟩
        rw [hc, decide_eq_true h1]; rfl
      · simp only [h1, decide_false, Bool.false_eq_true, if_false]
        by_cases h2 : 1000000000 < r.1
        · simp only [h2, decide_true, if_true]
          refine ⟨⟨(by first | rfl | trivial), (by first | rfl | trivial)⟩, ?_⟩
          rw [hc, decide_eq_true h2, decide_eq_false h1]; rfl
        · simp only [h2, decide_false, Bool.false_eq_true, if_false]
          have cont : (!(decide (last < 0) && !decide (r.1 = 0))) = true → (q_check_rule_2 ([some (.ref id), some (.int last), some (.int r.1), some (.int r.2.1), some (.str r.2.2)] : Ev) G').sat
              ⟨fun e G1 => G1 = G' ∧ ∃ (last : Int) (y2 y3 y4 : Option D), e = [some (.ref id), some (.int last), y2, y3, y4] ∧ goodB R = chk last (R.drop (k + 1)), fun _ _ => False, fun c _ G1 => (c = 1 ∧ G1 = G') ∧ goodB R = false, fun _ _ => False, fun _ _ => False⟩ := fun h3 => by
            rw [decide_eq_false h1, decide_eq_false h2, Bool.false_or, Bool.false_or, h3, Bool.true_and] at hc
            rw [q_check_rule_2, w_seq]; simp only [w_ok, w_c, w_v, w_op, w_un, w_b, w_nil, w_cons, w_call, w_tup, w_lst, w_dct0, w_fld, w_meth, w_make, w_mt, w_get2, w_tru, w_asB, w_not, w_and, w_or, w_chain, w_andV, w_orV, w_notV, w_if, w_isi, w_pNone, w_pSome, w_sl, w_nx, w_brk, w_cnt, w_drop, w_ret, w_retN, w_sif, w_raise, gmN, gmT, gmAll, w_asg, w_sfld, w_ssub, w_saug, w_for, w_iseq, w_irng1, w_irng2, slotQ_some, opQ_some, opD_some, getQ_some, opB_some, blQ_bl, tyQ_some, inQ_int, evQ_some, ghQ_some, List.getElem?_cons_zero, List.getElem?_cons_succ, List.set_cons_zero, List.set_cons_succ, List.map_cons, List.map_nil, List.cons_append, List.nil_append, List.replicate, List.length_cons, List.length_nil, o_add, o_sub, o_lt, o_le, o_gt, o_ge, o_les, o_eq, o_ne, o_eqs, o_nes, o_eqb, o_neb, o_is, o_isNot, o_iadd, o_neg, b_int, b_min, b_max]
            by_cases g1 : 0 ≤ r.2.1
            · by_cases g2 : r.2.1 ≤ 5
              · rw [decide_eq_true g1, decide_eq_true g2, Bool.true_and, Bool.true_and] at hc
                simp only [g1, g2, decide_true, if_true, Bool.not_true, Bool.false_eq_true, if_false]
                rw [q_check_rule_3, w_seq]; simp only [w_ok, w_c, w_v, w_op, w_un, w_b, w_nil, w_cons, w_call, w_tup, w_lst, w_dct0, w_fld, w_meth, w_make, w_mt, w_get2, w_tru, w_asB, w_not, w_and, w_or, w_chain, w_andV, w_orV, w_notV, w_if, w_isi, w_pNone, w_pSome, w_sl, w_nx, w_brk, w_cnt, w_drop, w_ret, w_retN, w_sif, w_raise, gmN, gmT, gmAll, w_asg, w_sfld, w_ssub, w_saug, w_for, w_iseq, w_irng1, w_irng2, slotQ_some, opQ_some, opD_some, getQ_some, opB_some, blQ_bl, tyQ_some, inQ_int, evQ_some, ghQ_some, List.getElem?_cons_zero, List.getElem?_cons_succ, List.set_cons_zero, List.set_cons_succ, List.map_cons, List.map_nil, List.cons_append, List.nil_append, List.replicate, List.length_cons, List.length_nil, o_add, o_sub, o_lt, o_le, o_gt, o_ge, o_les, o_eq, o_ne, o_eqs, o_nes, o_eqb, o_neb, o_is, o_isNot, o_iadd, o_neg, b_int, b_min, b_max, c_ROLES, notin_roles]
                cases hr : roleB r.2.2 with
                | true =>
                  rw [hr, Bool.true_and] at hc
                  simp only [Bool.not_true, Bool.false_eq_true, if_false]
                  exact ⟨(by first | rfl | trivial), _, _, _, _, rfl, hc⟩
                | false =>
                  rw [hr] at hc
                  simp only [Bool.not_false, if_true]
                  exact ⟨⟨(by first | rfl | trivial), (by first | rfl | trivial)⟩, hc⟩
              · rw [decide_eq_true g1, decide_eq_false g2] at hc
                simp only [g1, g2, decide_true, decide_false, if_true, Bool.not_false]
                exact ⟨⟨(by first | rfl | trivial), (by first | rfl | trivial)⟩, hc⟩
            · rw [decide_eq_false g1] at hc
              simp only [g1, decide_false, Bool.false_eq_true, if_false, Bool.not_false, if_true]
              exact ⟨⟨(by first | rfl | trivial), (by first | rfl | trivial)⟩, hc⟩
          by_cases h3 : last < 0
          · simp only [h3, decide_true, if_true]
            by_cases h4 : r.1 = 0
            · simp only [decide_eq_true h4, Bool.not_true, Bool.false_eq_true, if_false]
              exact Ro.sat_mono (cont (by rw [decide_eq_true h4]; cases decide (last < 0) <;> rfl)) (fun _ _ z => z) (fun _ _ z => z.elim) (fun _ _ _ z => z) (fun _ _ z => z.elim) (fun _ _ z => z.elim)
            · simp only [decide_eq_false h4, Bool.not_false, if_true]
              refine ⟨⟨(by first | rfl | trivial), (by first | rfl | trivial)⟩, ?_⟩
              rw [hc, decide_eq_true h3, decide_eq_false h4, decide_eq_false h1, decide_eq_false h2]; rfl
          · simp only [h3, decide_false, Bool.false_eq_true, if_false]
            exact Ro.sat_mono (cont (by rw [decide_eq_false h3]; rfl)) (fun _ _ z => z) (fun _ _ z => z.elim) (fun _ _ _ z => z) (fun _ _ z => z.elim) (fun _ _ z => z.elim)
    · rintro e G' ⟨rfl, last, y2, y3, y4, rfl, hc⟩
      rw [List.length_map, List.drop_length] at hc
      exact ⟨⟨(by first | rfl | trivial), (by first | rfl | trivial)⟩, hc⟩
  · have hg : goodB R = false := by unfold goodB; rw [decide_eq_false hl]; rfl
    by_cases h1 : (1 : Int) ≤ (R.length : Int)
    · have h2 : ¬ ((R.length : Int) ≤ 6) := by omega
      simp only [h1, h2, decide_true, decide_false, if_true, Bool.not_false]
      exact ⟨⟨(by first | rfl | trivial), (by first | rfl | trivial)⟩, hg⟩
    · simp only [h1, decide_false, Bool.false_eq_true, if_false, Bool.not_false, if_true]
      exact ⟨⟨(by first | rfl | trivial), (by first | rfl | trivial)⟩, hg⟩
end
end Lw
namespace Lw
open PySem PySem.Spec PyProof.Rows L2 Mi
section
variable {R : List Rw}
/-! what is due for an amount -/
def stF (a : Int) (f : Int × D) (r : Rw) : Int × D := if r.1 ≤ a then (r.2.1, .str r.2.2) else f
def fnd (a : Int) (R : List Rw) : Int × D := R.foldl (stF a) (0, .non)
theorem take_more {α : Type} {l : List α} {k : Nat} {x : α} (h : l[k]? = some x) : l.take (k + 1) = l.take k ++ [x] := by rw [List.take_succ, h]; rfl
theorem fnd_more {a : Int} {k : Nat} {r : Rw} (h : R[k]? = some r) : fnd a (R.take (k + 1)) = stF a (fnd a (R.take k)) r := by
  unfold fnd
  rw [take_more h, List.foldl_append]; rfl
theorem chk_grants : ∀ (R : List Rw) (l : Int), chk l R = true → ∀ r ∈ R, 0 ≤ r.2.1 ∧ r.2.1 ≤ 5
  | [], _, _ => fun r hr => by cases hr
  | r0 :: R, l, h => fun r hr => by
    rw [chk, Bool.and_eq_true, Bool.and_eq_true, Bool.and_eq_true, Bool.and_eq_true] at h
    rcases List.mem_cons.mp hr with rfl | hr
    · exact ⟨of_decide_eq_true h.1.1.2.1, of_decide_eq_true h.1.1.2.2⟩
    · exact chk_grants R r0.1 h.2 r hr
theorem fold_grants {a : Int} : ∀ (R : List Rw) (f : Int × D), (0 ≤ f.1 ∧ f.1 ≤ 5 ∧ (f.2 = .non ∨ ∃ s, f.2 = .str s)) → (∀ r ∈ R, 0 ≤ r.2.1 ∧ r.2.1 ≤ 5) → 0 ≤ (R.foldl (stF a) f).1 ∧ (R.foldl (stF a) f).1 ≤ 5 ∧ ((R.foldl (stF a) f).2 = .non ∨ ∃ s, (R.foldl (stF a) f).2 = .str s)
  | [], f, hf, _ => hf
  | r :: R, f, hf, h => fold_grants R (stF a f r) (by
      unfold stF
      split
      · exact ⟨(h r List.mem_cons_self).1, (h r List.mem_cons_self).2, .inr ⟨_, rfl⟩⟩
      · exact hf) fun x hx => h x (List.mem_cons_of_mem _ hx)
/-- a rule: none, or a good one -/
def Rul (R : List Rw) : Prop := R = [] ∨ goodB R = true
theorem Rul.fnd {a : Int} (h : Rul R) : 0 ≤ (fnd a R).1 ∧ (fnd a R).1 ≤ 5 ∧ ((fnd a R).2 = .non ∨ ∃ s, (fnd a R).2 = .str s) := by
  refine fold_grants R (0, .non) ⟨Int.le_refl 0, by decide, .inl rfl⟩ ?_
  rcases h with rfl | h
  · intro r hr; cases hr
  · unfold goodB at h
    rw [Bool.and_eq_true] at h
    exact chk_grants R _ h.2
theorem Rul.len (h : Rul R) : R.length ≤ 6 := by
  rcases h with rfl | h
  · decide
  · exact (goodB_len h).2
end
end Lw
namespace Lw
open PySem PySem.Spec PyProof.Rows L2 Mi
/-! users, rules, orders -/
/-- an order -/
structure Odr where
  mr : Str
  kd : Str
  am : Int
  ky : Str
  un : Int
  rq : Int
  ro : D
  st : Str
def ordF (x : Odr) (gl : Nat) : List (Nat × D) := [(0, .str x.mr), (1, .str x.kd), (2, .int x.am), (3, .str x.ky), (4, .int x.un), (5, .int x.rq), (6, x.ro), (7, .ref gl), (8, .str x.st)]
theorem ord_init (x : Odr) (G : Gh) (h1 : x.rq = 0) (h2 : x.ro = .non) (h3 : x.st = "ready") : ∃ G', m_Order_init [.ref G.n, .str x.mr, .str x.kd, .int x.am, .str x.ky, .int x.un] (G.push (.ins 8 [])) = .ok .non G' ∧ Fr G G' ∧ G'.n = G.n + 2 ∧ G'.ob G.n = .ins 8 (ordF x (G.n + 1)) ∧ G'.ob (G.n + 1) = .lst [] := by
  have key : (m_Order_init [.ref G.n, .str x.mr, .str x.kd, .int x.am, .str x.ky, .int x.un] (G.push (.ins 8 []))).sat (fun d G' => d = .non ∧ Fr G G' ∧ G'.n = G.n + 2 ∧ G'.ob G.n = .ins 8 (ordF x (G.n + 1)) ∧ G'.ob (G.n + 1) = .lst []) nE := by
    unfold m_Order_init b_Order_init
    rw [w_fun]
    refine ⟨rfl, ?_⟩
    have s0 : setFldO na 0 (.ref G.n) (.str x.mr) (G.push (.ins 8 [])) = some (G.push (.ins 8 [(0, .str x.mr)])) := by
      rw [setFld_ok (ob_push_same _ _) rfl (by simp only [List.length_cons, List.length_nil]; decide), push_set]; rfl
    rw [q_Order_init_1, w_seq]; simp only [w_ok, w_c, w_v, w_op, w_un, w_b, w_nil, w_cons, w_call, w_tup, w_lst, w_dct0, w_fld, w_meth, w_make, w_mt, w_get2, w_tru, w_asB, w_not, w_and, w_or, w_chain, w_andV, w_orV, w_notV, w_if, w_isi, w_pNone, w_pSome, w_sl, w_nx, w_brk, w_cnt, w_drop, w_ret, w_retN, w_sif, w_raise, gmN, gmT, gmAll, w_asg, w_sfld, w_ssub, w_saug, w_for, w_iseq, w_irng1, w_irng2, slotQ_some, opQ_some, opD_some, getQ_some, opB_some, blQ_bl, tyQ_some, inQ_int, evQ_some, ghQ_some, List.getElem?_cons_zero, List.getElem?_cons_succ, List.set_cons_zero, List.set_cons_succ, List.map_cons, List.map_nil, List.cons_append, List.nil_append, List.replicate, List.length_cons, List.length_nil, o_add, o_sub, o_lt, o_le, o_gt, o_ge, o_les, o_eq, o_ne, o_eqs, o_nes, o_eqb, o_neb, o_is, o_isNot, o_iadd, o_neg, b_int, b_min, b_max, s0]
    have s1 : setFldO na 1 (.ref G.n) (.str x.kd) (G.push (.ins 8 [(0, .str x.mr)])) = some (G.push (.ins 8 [(0, .str x.mr), (1, .str x.kd)])) := by
      rw [setFld_ok (ob_push_same _ _) rfl (by simp only [List.length_cons, List.length_nil]; decide), push_set]; rfl
    rw [q_Order_init_2, w_seq]; simp only [w_ok, w_c, w_v, w_op, w_un, w_b, w_nil, w_cons, w_call, w_tup, w_lst, w_dct0, w_fld, w_meth, w_make, w_mt, w_get2, w_tru, w_asB, w_not, w_and, w_or, w_chain, w_andV, w_orV, w_notV, w_if, w_isi, w_pNone, w_pSome, w_sl, w_nx, w_brk, w_cnt, w_drop, w_ret, w_retN, w_sif, w_raise, gmN, gmT, gmAll, w_asg, w_sfld, w_ssub, w_saug, w_for, w_iseq, w_irng1, w_irng2, slotQ_some, opQ_some, opD_some, getQ_some, opB_some, blQ_bl, tyQ_some, inQ_int, evQ_some, ghQ_some, List.getElem?_cons_zero, List.getElem?_cons_succ, List.set_cons_zero, List.set_cons_succ, List.map_cons, List.map_nil, List.cons_append, List.nil_append, List.replicate, List.length_cons, List.length_nil, o_add, o_sub, o_lt, o_le, o_gt, o_ge, o_les, o_eq, o_ne, o_eqs, o_nes, o_eqb, o_neb, o_is, o_isNot, o_iadd, o_neg, b_int, b_min, b_max, s1]
    have s2 : setFldO na 2 (.ref G.n) (.int x.am) (G.push (.ins 8 [(0, .str x.mr), (1, .str x.kd)])) = some (G.push (.ins 8 [(0, .str x.mr), (1, .str x.kd), (2, .int x.am)])) := by
      rw [setFld_ok (ob_push_same _ _) rfl (by simp only [List.length_cons, List.length_nil]; decide), push_set]; rfl
    rw [q_Order_init_3, w_seq]; simp only [w_ok, w_c, w_v, w_op, w_un, w_b, w_nil, w_cons, w_call, w_tup, w_lst, w_dct0, w_fld, w_meth, w_make, w_mt, w_get2, w_tru, w_asB, w_not, w_and, w_or, w_chain, w_andV, w_orV, w_notV, w_if, w_isi, w_pNone, w_pSome, w_sl, w_nx, w_brk, w_cnt, w_drop, w_ret, w_retN, w_sif, w_raise, gmN, gmT, gmAll, w_asg, w_sfld, w_ssub, w_saug, w_for, w_iseq, w_irng1, w_irng2, slotQ_some, opQ_some, opD_some, getQ_some, opB_some, blQ_bl, tyQ_some, inQ_int, evQ_some, ghQ_some, List.getElem?_cons_zero, List.getElem?_cons_succ, List.set_cons_zero, List.set_cons_succ, List.map_cons, List.map_nil, List.cons_append, List.nil_append, List.replicate, List.length_cons, List.length_nil, o_add, o_sub, o_lt, o_le, o_gt, o_ge, o_les, o_eq, o_ne, o_eqs, o_nes, o_eqb, o_neb, o_is, o_isNot, o_iadd, o_neg, b_int, b_min, b_max, s2]
    have s3 : setFldO na 3 (.ref G.n) (.str x.ky) (G.push (.ins 8 [(0, .str x.mr), (1, .str x.kd), (2, .int x.am)])) = some (G.push (.ins 8 [(0, .str x.mr), (1, .str x.kd), (2, .int x.am), (3, .str x.ky)])) := by
      rw [setFld_ok (ob_push_same _ _) rfl (by simp only [List.length_cons, List.length_nil]; decide), push_set]; rfl
    rw [q_Order_init_4, w_seq]; simp only [w_ok, w_c, w_v, w_op, w_un, w_b, w_nil, w_cons, w_call, w_tup, w_lst, w_dct0, w_fld, w_meth, w_make, w_mt, w_get2, w_tru, w_asB, w_not, w_and, w_or, w_chain, w_andV, w_orV, w_notV, w_if, w_isi, w_pNone, w_pSome, w_sl, w_nx, w_brk, w_cnt, w_drop, w_ret, w_retN, w_sif, w_raise, gmN, gmT, gmAll, w_asg, w_sfld, w_ssub, w_saug, w_for, w_iseq, w_irng1, w_irng2, slotQ_some, opQ_some, opD_some, getQ_some, opB_some, blQ_bl, tyQ_some, inQ_int, evQ_some, ghQ_some, List.getElem?_cons_zero, List.getElem?_cons_succ, List.set_cons_zero, List.set_cons_succ, List.map_cons, List.map_nil, List.cons_append, List.nil_append, List.replicate, List.length_cons, List.length_nil, o_add, o_sub, o_lt, o_le, o_gt, o_ge, o_les, o_eq, o_ne, o_eqs, o_nes, o_eqb, o_neb, o_is, o_isNot, o_iadd, o_neg, b_int, b_min, b_max, s3]
    have s4 : setFldO na 4 (.ref G.n) (.int x.un) (G.push (.ins 8 [(0, .str x.mr), (1, .str x.kd), (2, .int x.am), (3, .str x.ky)])) = some (G.push (.ins 8 [(0, .str x.mr), (1, .str x.kd), (2, .int x.am), (3, .str x.ky), (4, .int x.un)])) := by
      rw [setFld_ok (ob_push_same _ _) rfl (by simp only [List.length_cons, List.length_nil]; decide), push_set]; rfl
    rw [q_Order_init_5, w_seq]; simp only [w_ok, w_c, w_v, w_op, w_un, w_b, w_nil, w_cons, w_call, w_tup, w_lst, w_dct0, w_fld, w_meth, w_make, w_mt, w_get2, w_tru, w_asB, w_not, w_and, w_or, w_chain, w_andV, w_orV, w_notV, w_if, w_isi, w_pNone, w_pSome, w_sl, w_nx, w_brk, w_cnt, w_drop, w_ret, w_retN, w_sif, w_raise, gmN, gmT, gmAll, w_asg, w_sfld, w_ssub, w_saug, w_for, w_iseq, w_irng1, w_irng2, slotQ_some, opQ_some, opD_some, getQ_some, opB_some, blQ_bl, tyQ_some, inQ_int, evQ_some, ghQ_some, List.getElem?_cons_zero, List.getElem?_cons_succ, List.set_cons_zero, List.set_cons_succ, List.map_cons, List.map_nil, List.cons_append, List.nil_append, List.replicate, List.length_cons, List.length_nil, o_add, o_sub, o_lt, o_le, o_gt, o_ge, o_les, o_eq, o_ne, o_eqs, o_nes, o_eqb, o_neb, o_is, o_isNot, o_iadd, o_neg, b_int, b_min, b_max, s4]
    have s5 : setFldO na 5 (.ref G.n) (.int 0) (G.push (.ins 8 [(0, .str x.mr), (1, .str x.kd), (2, .int x.am), (3, .str x.ky), (4, .int x.un)])) = some (G.push (.ins 8 [(0, .str x.mr), (1, .str x.kd), (2, .int x.am), (3, .str x.ky), (4, .int x.un), (5, .int 0)])) := by
      rw [setFld_ok (ob_push_same _ _) rfl (by simp only [List.length_cons, List.length_nil]; decide), push_set]; rfl
    rw [q_Order_init_6, w_seq]; simp only [w_ok, w_c, w_v, w_op, w_un, w_b, w_nil, w_cons, w_call, w_tup, w_lst, w_dct0, w_fld, w_meth, w_make, w_mt, w_get2, w_tru, w_asB, w_not, w_and, w_or, w_chain, w_andV, w_orV, w_notV, w_if, w_isi, w_pNone, w_pSome, w_sl, w_nx, w_brk, w_cnt, w_drop, w_ret, w_retN, w_sif, w_raise, gmN, gmT, gmAll, w_asg, w_sfld, w_ssub, w_saug, w_for, w_iseq, w_irng1, w_irng2, slotQ_some, opQ_some, opD_some, getQ_some, opB_some, blQ_bl, tyQ_some, inQ_int, evQ_some, ghQ_some, List.getElem?_cons_zero, List.getElem?_cons_succ, List.set_cons_zero, List.set_cons_succ, List.map_cons, List.map_nil, List.cons_append, List.nil_append, List.replicate, List.length_cons, List.length_nil, o_add, o_sub, o_lt, o_le, o_gt, o_ge, o_les, o_eq, o_ne, o_eqs, o_nes, o_eqb, o_neb, o_is, o_isNot, o_iadd, o_neg, b_int, b_min, b_max, s5]
    have s6 : setFldO na 6 (.ref G.n) (.non) (G.push (.ins 8 [(0, .str x.mr), (1, .str x.kd), (2, .int x.am), (3, .str x.ky), (4, .int x.un), (5, .int 0)])) = some (G.push (.ins 8 [(0, .str x.mr), (1, .str x.kd), (2, .int x.am), (3, .str x.ky), (4, .int x.un), (5, .int 0), (6, .non)])) := by
      rw [setFld_ok (ob_push_same _ _) rfl (by simp only [List.length_cons, List.length_nil]; decide), push_set]; rfl
    rw [q_Order_init_7, w_seq]; simp only [w_ok, w_c, w_v, w_op, w_un, w_b, w_nil, w_cons, w_call, w_tup, w_lst, w_dct0, w_fld, w_meth, w_make, w_mt, w_get2, w_tru, w_asB, w_not, w_and, w_or, w_chain, w_andV, w_orV, w_notV, w_if, w_isi, w_pNone, w_pSome, w_sl, w_nx, w_brk, w_cnt, w_drop, w_ret, w_retN, w_sif, w_raise, gmN, gmT, gmAll, w_asg, w_sfld, w_ssub, w_saug, w_for, w_iseq, w_irng1, w_irng2, slotQ_some, opQ_some, opD_some, getQ_some, opB_some, blQ_bl, tyQ_some, inQ_int, evQ_some, ghQ_some, List.getElem?_cons_zero, List.getElem?_cons_succ, List.set_cons_zero, List.set_cons_succ, List.map_cons, List.map_nil, List.cons_append, List.nil_append, List.replicate, List.length_cons, List.length_nil, o_add, o_sub, o_lt, o_le, o_gt, o_ge, o_les, o_eq, o_ne, o_eqs, o_nes, o_eqb, o_neb, o_is, o_isNot, o_iadd, o_neg, b_int, b_min, b_max, s6]

    have p7 : setFldO na 7 (.ref G.n) (.ref (G.n + 1)) ((G.push (.ins 8 [(0, .str x.mr), (1, .str x.kd), (2, .int x.am), (3, .str x.ky), (4, .int x.un), (5, .int 0), (6, .non)])).push (.lst [])) = some (((G.push (.ins 8 [(0, .str x.mr), (1, .str x.kd), (2, .int x.am), (3, .str x.ky), (4, .int x.un), (5, .int 0), (6, .non)])).push (.lst [])).set G.n (.ins 8 [(0, .str x.mr), (1, .str x.kd), (2, .int x.am), (3, .str x.ky), (4, .int x.un), (5, .int 0), (6, .non), (7, .ref (G.n + 1))])) := by
      rw [setFld_ok (c := 8) (fs := [(0, .str x.mr), (1, .str x.kd), (2, .int x.am), (3, .str x.ky), (4, .int x.un), (5, .int 0), (6, .non)]) (by rw [ob_push_ne _ _ (by rw [n_push]; omega)]; exact ob_push_same _ _) rfl (by simp only [List.length_cons, List.length_nil]; decide)]; rfl
    have p8 : setFldO na 8 (.ref G.n) (.str "ready") (((G.push (.ins 8 [(0, .str x.mr), (1, .str x.kd), (2, .int x.am), (3, .str x.ky), (4, .int x.un), (5, .int 0), (6, .non)])).push (.lst [])).set G.n (.ins 8 [(0, .str x.mr), (1, .str x.kd), (2, .int x.am), (3, .str x.ky), (4, .int x.un), (5, .int 0), (6, .non), (7, .ref (G.n + 1))])) = some ((((G.push (.ins 8 [(0, .str x.mr), (1, .str x.kd), (2, .int x.am), (3, .str x.ky), (4, .int x.un), (5, .int 0), (6, .non)])).push (.lst [])).set G.n (.ins 8 [(0, .str x.mr), (1, .str x.kd), (2, .int x.am), (3, .str x.ky), (4, .int x.un), (5, .int 0), (6, .non), (7, .ref (G.n + 1))])).set G.n (.ins 8 [(0, .str x.mr), (1, .str x.kd), (2, .int x.am), (3, .str x.ky), (4, .int x.un), (5, .int 0), (6, .non), (7, .ref (G.n + 1)), (8, .str "ready")])) := by
      rw [setFld_ok (c := 8) (fs := [(0, .str x.mr), (1, .str x.kd), (2, .int x.am), (3, .str x.ky), (4, .int x.un), (5, .int 0), (6, .non), (7, .ref (G.n + 1))]) (ob_set_same _ _ _) rfl (by simp only [List.length_cons, List.length_nil]; decide)]; rfl
    rw [q_Order_init_8, w_seq]; simp only [w_ok, w_c, w_v, w_op, w_un, w_b, w_nil, w_cons, w_call, w_tup, w_lst, w_dct0, w_fld, w_meth, w_make, w_mt, w_get2, w_tru, w_asB, w_not, w_and, w_or, w_chain, w_andV, w_orV, w_notV, w_if, w_isi, w_pNone, w_pSome, w_sl, w_nx, w_brk, w_cnt, w_drop, w_ret, w_retN, w_sif, w_raise, gmN, gmT, gmAll, w_asg, w_sfld, w_ssub, w_saug, w_for, w_iseq, w_irng1, w_irng2, slotQ_some, opQ_some, opD_some, getQ_some, opB_some, blQ_bl, tyQ_some, inQ_int, evQ_some, ghQ_some, List.getElem?_cons_zero, List.getElem?_cons_succ, List.set_cons_zero, List.set_cons_succ, List.map_cons, List.map_nil, List.cons_append, List.nil_append, List.replicate, List.length_cons, List.length_nil, o_add, o_sub, o_lt, o_le, o_gt, o_ge, o_les, o_eq, o_ne, o_eqs, o_nes, o_eqb, o_neb, o_is, o_isNot, o_iadd, o_neg, b_int, b_min, b_max, n_push, p7, p8, Nat.zero_le, true_and]
    refine ⟨⟨?_, fun j hj => ?_⟩, ?_, ?_, ?_⟩
    · simp only [n_set, n_push]; omega
    · rw [ob_set_ne _ _ (by omega), ob_set_ne _ _ (by omega), ob_push_ne _ _ (by rw [n_push]; omega), ob_push_ne _ _ (by omega)]
    · rfl
    · rw [ob_set_same]
      unfold ordF
      rw [h1, h2, h3]
    · rw [ob_set_ne _ _ (by omega), ob_set_ne _ _ (by omega)]
      exact ob_push_same (G.push _) _
  obtain ⟨d, G', e, rfl, h⟩ := Rs.ok_of key
  exact ⟨G', e, h⟩

/-! the head of an Orders -/
def ordsF (o : Nat) : List (Nat × D) := [(9, .ref (o + 1)), (10, .ref (o + 2)), (11, .ref (o + 3)), (12, .ref (o + 4))]
section
variable {G : Gh} {o : Nat}
theorem g9 (h : G.ob o = .ins 9 (ordsF o)) : fldO na 9 (.ref o) G = some (.ref (o + 1)) := fld_of h rfl rfl
theorem g10 (h : G.ob o = .ins 9 (ordsF o)) : fldO na 10 (.ref o) G = some (.ref (o + 2)) := fld_of h rfl rfl
theorem g11 (h : G.ob o = .ins 9 (ordsF o)) : fldO na 11 (.ref o) G = some (.ref (o + 3)) := fld_of h rfl rfl
theorem g12 (h : G.ob o = .ins 9 (ordsF o)) : fldO na 12 (.ref o) G = some (.ref (o + 4)) := fld_of h rfl rfl
theorem in_dct {l : Nat} {kvs : List (Key × D)} (x : Str) (h : G.ob l = .dct kvs) : opIn (.str x) (.ref l) G = some (.bl (valD kvs (.inr x)).isSome, G) := by
  unfold opIn memD
  dsimp only
  rw [h]
  rfl
theorem nin_dct {l : Nat} {kvs : List (Key × D)} (x : Str) (h : G.ob l = .dct kvs) : opNotIn (.str x) (.ref l) G = some (.bl (!(valD kvs (.inr x)).isSome), G) := by
  unfold opNotIn memD
  dsimp only
  rw [h]
  rfl
/-- the error that an order's arguments raise -/
def placeE (kro : List (Key × D)) (by_ kind : Str) (am : Int) (key : Str) (un : Int) : Option Nat :=
  if (valD kro (.inr by_)).isSome = false then some 6 else if nameB kind.cps.toList = false then some 1 else if ¬ (1 ≤ am ∧ am ≤ 1000000000) then some 1 else if ¬ (1 ≤ key.length ∧ key.length ≤ 20) then some 1 else if ¬ (0 ≤ un ∧ un ≤ 36524) then some 2 else none
def Out (r : Rs D) (G : Gh) : Option Nat → Prop
  | none => ∃ G', r = .ok .non G' ∧ Fr G G'
  | some c => ∃ G', r = .er c G' ∧ Fr G G'
theorem is_amount_eq (n : Int) (G : Gh) : m_is_amount [.int n] G = .ok (.bl (decide (1 ≤ n ∧ n ≤ 1000000000))) G := by
  apply eq_of_sat
  unfold m_is_amount b_is_amount
  rw [w_fun]
  refine ⟨rfl, ?_⟩
  simp only [w_ok, w_c, w_v, w_op, w_un, w_b, w_nil, w_cons, w_call, w_tup, w_lst, w_dct0, w_fld, w_meth, w_make, w_mt, w_get2, w_tru, w_asB, w_not, w_and, w_or, w_chain, w_andV, w_orV, w_notV, w_if, w_isi, w_pNone, w_pSome, w_sl, w_nx, w_brk, w_cnt, w_drop, w_ret, w_retN, w_sif, w_raise, gmN, gmT, gmAll, w_asg, w_sfld, w_ssub, w_saug, w_for, w_iseq, w_irng1, w_irng2, slotQ_some, opQ_some, opD_some, getQ_some, opB_some, blQ_bl, tyQ_some, inQ_int, evQ_some, ghQ_some, List.getElem?_cons_zero, List.getElem?_cons_succ, List.set_cons_zero, List.set_cons_succ, List.map_cons, List.map_nil, List.cons_append, List.nil_append, List.replicate, List.length_cons, List.length_nil, o_add, o_sub, o_lt, o_le, o_gt, o_ge, o_les, o_eq, o_ne, o_eqs, o_nes, o_eqb, o_neb, o_is, o_isNot, o_iadd, o_neg, b_int, b_min, b_max]
  by_cases h : 1 ≤ n <;> simp [h]
theorem is_day_eq' (n : Int) (G : Gh) : m_is_day [.int n] G = .ok (.bl (decide (0 ≤ n ∧ n ≤ 36524))) G := by
  rw [is_day_eq]
  by_cases h : 0 ≤ n <;> simp [h]
theorem check_place_eq {kro : List (Key × D)} (ho : G.ob o = .ins 9 (ordsF o)) (hr : G.ob (o + 1) = .dct kro) (by_ kind : Str) (am : Int) (key : Str) (un : Int) (hz1 : kind.length ≤ 1000000) (hz2 : key.length ≤ 1000000) :
    Out (m_Orders_check_place [.ref o, .str by_, .str kind, .int am, .str key, .int un] G) G (placeE kro by_ kind am key un) := by
  unfold placeE
  have start : ∀ {Q E}, (q_Orders_check_place_1 ([some (.ref o), some (.str by_), some (.str kind), some (.int am), some (.str key), some (.int un)] : Ev) G).sat ⟨fun _ G1 => Q .non G1, Q, fun c _ G1 => E c G1, fun _ _ => False, fun _ _ => False⟩ → (m_Orders_check_place [.ref o, .str by_, .str kind, .int am, .str key, .int un] G).sat Q E := fun {Q E} h => by
    unfold m_Orders_check_place b_Orders_check_place
    rw [w_fun]
    exact ⟨rfl, h⟩
  have ok : ∀ {c : Option Nat}, (m_Orders_check_place [.ref o, .str by_, .str kind, .int am, .str key, .int un] G).sat (fun d G' => d = .non ∧ Fr G G' ∧ c = none) (fun c' G' => c = some c' ∧ Fr G G') → Out (m_Orders_check_place [.ref o, .str by_, .str kind, .int am, .str key, .int un] G) G c := fun {c} h => by
    cases e : m_Orders_check_place [.ref o, .str by_, .str kind, .int am, .str key, .int un] G with
    | ok a G' => rw [e] at h; obtain ⟨rfl, h2, rfl⟩ := h; exact ⟨_, rfl, h2⟩
    | er c G' => rw [e] at h; obtain ⟨rfl, h2⟩ := h; exact ⟨_, rfl, h2⟩
    | no => rw [e] at h; exact h.elim
  refine ok (start ?_)
  rw [q_Orders_check_place_1, w_seq]; simp only [w_ok, w_c, w_v, w_op, w_un, w_b, w_nil, w_cons, w_call, w_tup, w_lst, w_dct0, w_fld, w_meth, w_make, w_mt, w_get2, w_tru, w_asB, w_not, w_and, w_or, w_chain, w_andV, w_orV, w_notV, w_if, w_isi, w_pNone, w_pSome, w_sl, w_nx, w_brk, w_cnt, w_drop, w_ret, w_retN, w_sif, w_raise, gmN, gmT, gmAll, w_asg, w_sfld, w_ssub, w_saug, w_for, w_iseq, w_irng1, w_irng2, slotQ_some, opQ_some, opD_some, getQ_some, opB_some, blQ_bl, tyQ_some, inQ_int, evQ_some, ghQ_some, List.getElem?_cons_zero, List.getElem?_cons_succ, List.set_cons_zero, List.set_cons_succ, List.map_cons, List.map_nil, List.cons_append, List.nil_append, List.replicate, List.length_cons, List.length_nil, o_add, o_sub, o_lt, o_le, o_gt, o_ge, o_les, o_eq, o_ne, o_eqs, o_nes, o_eqb, o_neb, o_is, o_isNot, o_iadd, o_neg, b_int, b_min, b_max, g9 ho, nin_dct by_ hr]
  cases h1 : (valD kro (.inr by_)).isSome with
  | false =>
    rw [if_pos rfl, if_pos (by first | rfl | trivial)]
    exact ⟨rfl, Fr.refl _⟩
  | true =>
    simp only [Bool.not_true, Bool.false_eq_true, Bool.true_eq_false, if_false]
    cases h2 : nameB kind.cps.toList with
    | false =>
      obtain ⟨G', e, f⟩ := check_name_er kind G hz1 h2
      rw [q_Orders_check_place_2, w_seq]; simp only [w_ok, w_c, w_v, w_op, w_un, w_b, w_nil, w_cons, w_call, w_tup, w_lst, w_dct0, w_fld, w_meth, w_make, w_mt, w_get2, w_tru, w_asB, w_not, w_and, w_or, w_chain, w_andV, w_orV, w_notV, w_if, w_isi, w_pNone, w_pSome, w_sl, w_nx, w_brk, w_cnt, w_drop, w_ret, w_retN, w_sif, w_raise, gmN, gmT, gmAll, w_asg, w_sfld, w_ssub, w_saug, w_for, w_iseq, w_irng1, w_irng2, slotQ_some, opQ_some, opD_some, getQ_some, opB_some, blQ_bl, tyQ_some, inQ_int, evQ_some, ghQ_some, List.getElem?_cons_zero, List.getElem?_cons_succ, List.set_cons_zero, List.set_cons_succ, List.map_cons, List.map_nil, List.cons_append, List.nil_append, List.replicate, List.length_cons, List.length_nil, o_add, o_sub, o_lt, o_le, o_gt, o_ge, o_les, o_eq, o_ne, o_eqs, o_nes, o_eqb, o_neb, o_is, o_isNot, o_iadd, o_neg, b_int, b_min, b_max, e]
      rw [if_pos (by first | rfl | trivial)]
      exact ⟨rfl, f⟩
    | true =>
      obtain ⟨G', e, f⟩ := check_name_ok kind G hz1 h2
      rw [q_Orders_check_place_2, w_seq]; simp only [w_ok, w_c, w_v, w_op, w_un, w_b, w_nil, w_cons, w_call, w_tup, w_lst, w_dct0, w_fld, w_meth, w_make, w_mt, w_get2, w_tru, w_asB, w_not, w_and, w_or, w_chain, w_andV, w_orV, w_notV, w_if, w_isi, w_pNone, w_pSome, w_sl, w_nx, w_brk, w_cnt, w_drop, w_ret, w_retN, w_sif, w_raise, gmN, gmT, gmAll, w_asg, w_sfld, w_ssub, w_saug, w_for, w_iseq, w_irng1, w_irng2, slotQ_some, opQ_some, opD_some, getQ_some, opB_some, blQ_bl, tyQ_some, inQ_int, evQ_some, ghQ_some, List.getElem?_cons_zero, List.getElem?_cons_succ, List.set_cons_zero, List.set_cons_succ, List.map_cons, List.map_nil, List.cons_append, List.nil_append, List.replicate, List.length_cons, List.length_nil, o_add, o_sub, o_lt, o_le, o_gt, o_ge, o_les, o_eq, o_ne, o_eqs, o_nes, o_eqb, o_neb, o_is, o_isNot, o_iadd, o_neg, b_int, b_min, b_max, e]
      simp only [Bool.true_eq_false, if_false]
      rw [q_Orders_check_place_3, w_seq]; simp only [w_ok, w_c, w_v, w_op, w_un, w_b, w_nil, w_cons, w_call, w_tup, w_lst, w_dct0, w_fld, w_meth, w_make, w_mt, w_get2, w_tru, w_asB, w_not, w_and, w_or, w_chain, w_andV, w_orV, w_notV, w_if, w_isi, w_pNone, w_pSome, w_sl, w_nx, w_brk, w_cnt, w_drop, w_ret, w_retN, w_sif, w_raise, gmN, gmT, gmAll, w_asg, w_sfld, w_ssub, w_saug, w_for, w_iseq, w_irng1, w_irng2, slotQ_some, opQ_some, opD_some, getQ_some, opB_some, blQ_bl, tyQ_some, inQ_int, evQ_some, ghQ_some, List.getElem?_cons_zero, List.getElem?_cons_succ, List.set_cons_zero, List.set_cons_succ, List.map_cons, List.map_nil, List.cons_append, List.nil_append, List.replicate, List.length_cons, List.length_nil, o_add, o_sub, o_lt, o_le, o_gt, o_ge, o_les, o_eq, o_ne, o_eqs, o_nes, o_eqb, o_neb, o_is, o_isNot, o_iadd, o_neg, b_int, b_min, b_max, is_amount_eq, truD]
      by_cases h3 : 1 ≤ am ∧ am ≤ 1000000000
      · simp only [h3, decide_true, Bool.not_true, Bool.false_eq_true, if_false, not_true, and_self, decide_eq_true h3]
        rw [q_Orders_check_place_4, w_seq]; simp only [w_ok, w_c, w_v, w_op, w_un, w_b, w_nil, w_cons, w_call, w_tup, w_lst, w_dct0, w_fld, w_meth, w_make, w_mt, w_get2, w_tru, w_asB, w_not, w_and, w_or, w_chain, w_andV, w_orV, w_notV, w_if, w_isi, w_pNone, w_pSome, w_sl, w_nx, w_brk, w_cnt, w_drop, w_ret, w_retN, w_sif, w_raise, gmN, gmT, gmAll, w_asg, w_sfld, w_ssub, w_saug, w_for, w_iseq, w_irng1, w_irng2, slotQ_some, opQ_some, opD_some, getQ_some, opB_some, blQ_bl, tyQ_some, inQ_int, evQ_some, ghQ_some, List.getElem?_cons_zero, List.getElem?_cons_succ, List.set_cons_zero, List.set_cons_succ, List.map_cons, List.map_nil, List.cons_append, List.nil_append, List.replicate, List.length_cons, List.length_nil, o_add, o_sub, o_lt, o_le, o_gt, o_ge, o_les, o_eq, o_ne, o_eqs, o_nes, o_eqb, o_neb, o_is, o_isNot, o_iadd, o_neg, b_int, b_min, b_max, b_len (len_str hz2), is_day_eq', truD]
        by_cases h4 : 1 ≤ key.length ∧ key.length ≤ 20
        · have d1 : decide ((1 : Int) ≤ (key.length : Int)) = true := decide_eq_true (by omega)
          have d2 : decide ((key.length : Int) ≤ 20) = true := decide_eq_true (by omega)
          simp only [d1, d2, if_true, Bool.not_true, Bool.false_eq_true, if_false]
          rw [if_neg (not_not_intro h4)]
          by_cases h5 : 0 ≤ un ∧ un ≤ 36524
          · rw [if_neg (by rw [decide_eq_true h5]; decide), if_neg (not_not_intro h5)]
            exact ⟨(by first | rfl | trivial), f, (by first | rfl | trivial)⟩
          · rw [if_pos (by rw [decide_eq_false h5]; rfl), if_pos h5]
            exact ⟨(by first | rfl | trivial), f⟩
        · rw [if_pos h4]
          by_cases h5 : (1 : Int) ≤ (key.length : Int)
          · have d2 : ¬ ((key.length : Int) ≤ 20) := by omega
            simp only [decide_eq_true h5, decide_eq_false d2, if_true, Bool.not_false]
            exact ⟨(by first | rfl | trivial), f⟩
          · simp only [decide_eq_false h5, Bool.false_eq_true, if_false, Bool.not_false, if_true]
            exact ⟨(by first | rfl | trivial), f⟩
      · rw [if_pos (by rw [decide_eq_false h3]; rfl), if_pos h3]
        exact ⟨rfl, f⟩
theorem by_key_eq {kn : List (Key × D)} (ho : G.ob o = .ins 9 (ordsF o)) (hn : G.ob (o + 4) = .dct kn) (key : Str) : m_Orders_by_key [.ref o, .str key] G = .ok ((valD kn (.inr key)).getD .non) G := by
  apply eq_of_sat
  unfold m_Orders_by_key b_Orders_by_key
  rw [w_fun]
  refine ⟨rfl, ?_⟩
  simp only [w_get1, w_ok, w_c, w_v, w_op, w_un, w_b, w_nil, w_cons, w_call, w_tup, w_lst, w_dct0, w_fld, w_meth, w_make, w_mt, w_get2, w_tru, w_asB, w_not, w_and, w_or, w_chain, w_andV, w_orV, w_notV, w_if, w_isi, w_pNone, w_pSome, w_sl, w_nx, w_brk, w_cnt, w_drop, w_ret, w_retN, w_sif, w_raise, gmN, gmT, gmAll, w_asg, w_sfld, w_ssub, w_saug, w_for, w_iseq, w_irng1, w_irng2, slotQ_some, opQ_some, opD_some, getQ_some, opB_some, blQ_bl, tyQ_some, inQ_int, evQ_some, ghQ_some, List.getElem?_cons_zero, List.getElem?_cons_succ, List.set_cons_zero, List.set_cons_succ, List.map_cons, List.map_nil, List.cons_append, List.nil_append, List.replicate, List.length_cons, List.length_nil, g12 ho, dct_ob hn, keyD, Option.isSome_some, true_and]
theorem row_for_eq {kru : List (Key × D)} {R : List Rw} (ho : G.ob o = .ins 9 (ordsF o)) (hr : G.ob (o + 2) = .dct kru) (kind : Str) (am : Int) (hk : (valD kru (.inr kind)).getD (.tup []) = .tup (R.map rowD)) : m_Orders_row_for [.ref o, .str kind, .int am] G = .ok (.tup [.int (fnd am R).1, (fnd am R).2]) G := by
  apply eq_of_sat
  unfold m_Orders_row_for b_Orders_row_for
  rw [w_fun]
  refine ⟨rfl, ?_⟩
  rw [q_Orders_row_for_1, w_seq]; simp only [w_ok, w_c, w_v, w_op, w_un, w_b, w_nil, w_cons, w_call, w_tup, w_lst, w_dct0, w_fld, w_meth, w_make, w_mt, w_get2, w_tru, w_asB, w_not, w_and, w_or, w_chain, w_andV, w_orV, w_notV, w_if, w_isi, w_pNone, w_pSome, w_sl, w_nx, w_brk, w_cnt, w_drop, w_ret, w_retN, w_sif, w_raise, gmN, gmT, gmAll, w_asg, w_sfld, w_ssub, w_saug, w_for, w_iseq, w_irng1, w_irng2, slotQ_some, opQ_some, opD_some, getQ_some, opB_some, blQ_bl, tyQ_some, inQ_int, evQ_some, ghQ_some, List.getElem?_cons_zero, List.getElem?_cons_succ, List.set_cons_zero, List.set_cons_succ, List.map_cons, List.map_nil, List.cons_append, List.nil_append, List.replicate, List.length_cons, List.length_nil, o_add, o_sub, o_lt, o_le, o_gt, o_ge, o_les, o_eq, o_ne, o_eqs, o_nes, o_eqb, o_neb, o_is, o_isNot, o_iadd, o_neg, b_int, b_min, b_max]
  refine ⟨by decide, ?_⟩
  rw [q_Orders_row_for_2, w_seq]; simp only [w_ok, w_c, w_v, w_op, w_un, w_b, w_nil, w_cons, w_call, w_tup, w_lst, w_dct0, w_fld, w_meth, w_make, w_mt, w_get2, w_tru, w_asB, w_not, w_and, w_or, w_chain, w_andV, w_orV, w_notV, w_if, w_isi, w_pNone, w_pSome, w_sl, w_nx, w_brk, w_cnt, w_drop, w_ret, w_retN, w_sif, w_raise, gmN, gmT, gmAll, w_asg, w_sfld, w_ssub, w_saug, w_for, w_iseq, w_irng1, w_irng2, slotQ_some, opQ_some, opD_some, getQ_some, opB_some, blQ_bl, tyQ_some, inQ_int, evQ_some, ghQ_some, List.getElem?_cons_zero, List.getElem?_cons_succ, List.set_cons_zero, List.set_cons_succ, List.map_cons, List.map_nil, List.cons_append, List.nil_append, List.replicate, List.length_cons, List.length_nil, o_add, o_sub, o_lt, o_le, o_gt, o_ge, o_les, o_eq, o_ne, o_eqs, o_nes, o_eqb, o_neb, o_is, o_isNot, o_iadd, o_neg, b_int, b_min, b_max, g10 ho, dct_ob hr, keyD, Option.isSome_some, true_and, hk]
  refine ⟨by decide, ?_⟩
  refine seq_tup_sat (fun k e G' => G' = G ∧ ∃ (y4 y5 y6 : Option D), e = [some (.ref o), some (.str kind), some (.int am), some (.tup [.int (fnd am (R.take k)).1, (fnd am (R.take k)).2]), y4, y5, y6]) ⟨rfl, none, none, none, rfl⟩ ?_ ?_
  · rintro k d e G' hd ⟨rfl, y4, y5, y6, rfl⟩
    obtain ⟨r, hr, rfl⟩ := rows_get hd
    simp only [rowD, w_ok, w_c, w_v, w_op, w_un, w_b, w_nil, w_cons, w_call, w_tup, w_lst, w_dct0, w_fld, w_meth, w_make, w_mt, w_get2, w_tru, w_asB, w_not, w_and, w_or, w_chain, w_andV, w_orV, w_notV, w_if, w_isi, w_pNone, w_pSome, w_sl, w_nx, w_brk, w_cnt, w_drop, w_ret, w_retN, w_sif, w_raise, gmN, gmT, gmAll, w_asg, w_sfld, w_ssub, w_saug, w_for, w_iseq, w_irng1, w_irng2, slotQ_some, opQ_some, opD_some, getQ_some, opB_some, blQ_bl, tyQ_some, inQ_int, evQ_some, ghQ_some, List.getElem?_cons_zero, List.getElem?_cons_succ, List.set_cons_zero, List.set_cons_succ, List.map_cons, List.map_nil, List.cons_append, List.nil_append, List.replicate, List.length_cons, List.length_nil, o_add, o_sub, o_lt, o_le, o_gt, o_ge, o_les, o_eq, o_ne, o_eqs, o_nes, o_eqb, o_neb, o_is, o_isNot, o_iadd, o_neg, b_int, b_min, b_max]
    rw [fnd_more hr]
    unfold stF
    by_cases h : r.1 ≤ am
    · simp only [h, decide_true, if_true]
      exact ⟨by decide, (by first | rfl | trivial), _, _, _, rfl⟩
    · simp only [h, decide_false, Bool.false_eq_true, if_false]
      exact ⟨(by first | rfl | trivial), _, _, _, rfl⟩
  · rintro e G' ⟨rfl, y4, y5, y6, rfl⟩
    rw [List.length_map, List.take_length]
    dsimp only
    simp only [w_ok, w_c, w_v, w_op, w_un, w_b, w_nil, w_cons, w_call, w_tup, w_lst, w_dct0, w_fld, w_meth, w_make, w_mt, w_get2, w_tru, w_asB, w_not, w_and, w_or, w_chain, w_andV, w_orV, w_notV, w_if, w_isi, w_pNone, w_pSome, w_sl, w_nx, w_brk, w_cnt, w_drop, w_ret, w_retN, w_sif, w_raise, gmN, gmT, gmAll, w_asg, w_sfld, w_ssub, w_saug, w_for, w_iseq, w_irng1, w_irng2, slotQ_some, opQ_some, opD_some, getQ_some, opB_some, blQ_bl, tyQ_some, inQ_int, evQ_some, ghQ_some, List.getElem?_cons_zero, List.getElem?_cons_succ, List.set_cons_zero, List.set_cons_succ, List.map_cons, List.map_nil, List.cons_append, List.nil_append, List.replicate, List.length_cons, List.length_nil, o_add, o_sub, o_lt, o_le, o_gt, o_ge, o_les, o_eq, o_ne, o_eqs, o_nes, o_eqb, o_neb, o_is, o_isNot, o_iadd, o_neg, b_int, b_min, b_max]
    exact ⟨(by first | rfl | trivial), (by first | rfl | trivial)⟩
end
end Lw
namespace Lw
open PySem PySem.Spec PyProof.Rows L2 Mi
/-! placing an order, setting a rule -/
section
variable {G : Gh} {o : Nat}
/-- the order that is placed for what a rule asks -/
def newO (by_ kind : Str) (am : Int) (key : Str) (un : Int) (f : Int × D) : Odr := ⟨by_, kind, am, key, un, if 0 < f.1 then f.1 else 0, if 0 < f.1 then f.2 else .non, if 0 < f.1 then "waiting" else "ready"⟩
theorem require_eq (x : Odr) (gl i : Nat) (h : G.ob i = .ins 8 (ordF x gl)) (a : Int) (b : D) : m_Order_require [.ref i, .int a, b] G = .ok .non (if 0 < a then G.set i (.ins 8 (ordF { x with rq := a, ro := b, st := "waiting" } gl)) else G) := by
  apply eq_of_sat
  unfold m_Order_require b_Order_require
  rw [w_fun]
  refine ⟨rfl, ?_⟩
  simp only [w_ok, w_c, w_v, w_op, w_un, w_b, w_nil, w_cons, w_call, w_tup, w_lst, w_dct0, w_fld, w_meth, w_make, w_mt, w_get2, w_tru, w_asB, w_not, w_and, w_or, w_chain, w_andV, w_orV, w_notV, w_if, w_isi, w_pNone, w_pSome, w_sl, w_nx, w_brk, w_cnt, w_drop, w_ret, w_retN, w_sif, w_raise, gmN, gmT, gmAll, w_asg, w_sfld, w_ssub, w_saug, w_for, w_iseq, w_irng1, w_irng2, slotQ_some, opQ_some, opD_some, getQ_some, opB_some, blQ_bl, tyQ_some, inQ_int, evQ_some, ghQ_some, List.getElem?_cons_zero, List.getElem?_cons_succ, List.set_cons_zero, List.set_cons_succ, List.map_cons, List.map_nil, List.cons_append, List.nil_append, List.replicate, List.length_cons, List.length_nil, o_add, o_sub, o_lt, o_le, o_gt, o_ge, o_les, o_eq, o_ne, o_eqs, o_nes, o_eqb, o_neb, o_is, o_isNot, o_iadd, o_neg, b_int, b_min, b_max]
  by_cases ha : 0 < a
  · have s5 : setFldO na 5 (.ref i) (.int a) G = some (G.set i (.ins 8 (ordF { x with rq := a } gl))) := by
      rw [setFld_ok h rfl (by unfold ordF; simp only [List.length_cons, List.length_nil]; decide)]; rfl
    have s6 : setFldO na 6 (.ref i) b (G.set i (.ins 8 (ordF { x with rq := a } gl))) = some ((G.set i (.ins 8 (ordF { x with rq := a } gl))).set i (.ins 8 (ordF { x with rq := a, ro := b } gl))) := by
      rw [setFld_ok (ob_set_same _ _ _) rfl (by unfold ordF; simp only [List.length_cons, List.length_nil]; decide)]; rfl
    have s8 : setFldO na 8 (.ref i) (.str "waiting") ((G.set i (.ins 8 (ordF { x with rq := a } gl))).set i (.ins 8 (ordF { x with rq := a, ro := b } gl))) = some (((G.set i (.ins 8 (ordF { x with rq := a } gl))).set i (.ins 8 (ordF { x with rq := a, ro := b } gl))).set i (.ins 8 (ordF { x with rq := a, ro := b, st := "waiting" } gl))) := by
      rw [setFld_ok (ob_set_same _ _ _) rfl (by unfold ordF; simp only [List.length_cons, List.length_nil]; decide)]; rfl
    simp only [decide_eq_true ha, if_true]
    rw [if_pos ha]
    rw [q_Order_require_1, w_seq]; simp only [w_ok, w_c, w_v, w_op, w_un, w_b, w_nil, w_cons, w_call, w_tup, w_lst, w_dct0, w_fld, w_meth, w_make, w_mt, w_get2, w_tru, w_asB, w_not, w_and, w_or, w_chain, w_andV, w_orV, w_notV, w_if, w_isi, w_pNone, w_pSome, w_sl, w_nx, w_brk, w_cnt, w_drop, w_ret, w_retN, w_sif, w_raise, gmN, gmT, gmAll, w_asg, w_sfld, w_ssub, w_saug, w_for, w_iseq, w_irng1, w_irng2, slotQ_some, opQ_some, opD_some, getQ_some, opB_some, blQ_bl, tyQ_some, inQ_int, evQ_some, ghQ_some, List.getElem?_cons_zero, List.getElem?_cons_succ, List.set_cons_zero, List.set_cons_succ, List.map_cons, List.map_nil, List.cons_append, List.nil_append, List.replicate, List.length_cons, List.length_nil, o_add, o_sub, o_lt, o_le, o_gt, o_ge, o_les, o_eq, o_ne, o_eqs, o_nes, o_eqb, o_neb, o_is, o_isNot, o_iadd, o_neg, b_int, b_min, b_max, s5]
    rw [q_Order_require_2, w_seq]; simp only [w_ok, w_c, w_v, w_op, w_un, w_b, w_nil, w_cons, w_call, w_tup, w_lst, w_dct0, w_fld, w_meth, w_make, w_mt, w_get2, w_tru, w_asB, w_not, w_and, w_or, w_chain, w_andV, w_orV, w_notV, w_if, w_isi, w_pNone, w_pSome, w_sl, w_nx, w_brk, w_cnt, w_drop, w_ret, w_retN, w_sif, w_raise, gmN, gmT, gmAll, w_asg, w_sfld, w_ssub, w_saug, w_for, w_iseq, w_irng1, w_irng2, slotQ_some, opQ_some, opD_some, getQ_some, opB_some, blQ_bl, tyQ_some, inQ_int, evQ_some, ghQ_some, List.getElem?_cons_zero, List.getElem?_cons_succ, List.set_cons_zero, List.set_cons_succ, List.map_cons, List.map_nil, List.cons_append, List.nil_append, List.replicate, List.length_cons, List.length_nil, o_add, o_sub, o_lt, o_le, o_gt, o_ge, o_les, o_eq, o_ne, o_eqs, o_nes, o_eqb, o_neb, o_is, o_isNot, o_iadd, o_neg, b_int, b_min, b_max, s6, s8]
    refine ⟨(by first | rfl | trivial), ?_⟩
    unfold Gh.set
    congr 1
    funext j
    dsimp only
    split <;> rfl
  · simp only [decide_eq_false ha, Bool.false_eq_true, if_false]
    rw [if_neg ha]
    exact ⟨(by first | rfl | trivial), (by first | rfl | trivial)⟩
theorem place_new {kro kru kn : List (Key × D)} {ps : List D} {R : List Rw} (ho : G.ob o = .ins 9 (ordsF o)) (hlt : o + 4 < G.n) (hro : G.ob (o + 1) = .dct kro) (hru : G.ob (o + 2) = .dct kru) (hpl : G.ob (o + 3) = .lst ps) (hnb : G.ob (o + 4) = .dct kn)
    (by_ kind : Str) (am : Int) (key : Str) (un : Int) (hz1 : kind.length ≤ 1000000) (hz2 : key.length ≤ 1000000) (hE : placeE kro by_ kind am key un = none) (hk : valD kn (.inr key) = none) (hp : ps.length < 500) (hkn : kn.length ≤ 1000) (hR : (valD kru (.inr kind)).getD (.tup []) = .tup (R.map rowD)) :
    ∃ id G', m_Orders_place [.ref o, .str by_, .str kind, .int am, .str key, .int un] G = .ok (.int ((ps.length : Int) + 1)) ((G'.set (o + 3) (.lst (ps ++ [.ref id]))).set (o + 4) (.dct (putD kn (.inr key) (.int ((ps.length : Int) + 1))))) ∧ Fr G G' ∧ G.n ≤ id ∧ id + 1 < G'.n ∧ G'.ob id = .ins 8 (ordF (newO by_ kind am key un (fnd am R)) (id + 1)) ∧ G'.ob (id + 1) = .lst [] := by
  have key2 : (m_Orders_place [.ref o, .str by_, .str kind, .int am, .str key, .int un] G).sat (fun d Gx => ∃ id G', d = .int ((ps.length : Int) + 1) ∧ Gx = ((G'.set (o + 3) (.lst (ps ++ [.ref id]))).set (o + 4) (.dct (putD kn (.inr key) (.int ((ps.length : Int) + 1))))) ∧ Fr G G' ∧ G.n ≤ id ∧ id + 1 < G'.n ∧ G'.ob id = .ins 8 (ordF (newO by_ kind am key un (fnd am R)) (id + 1)) ∧ G'.ob (id + 1) = .lst []) nE := by
    unfold m_Orders_place b_Orders_place
    rw [w_fun]
    refine ⟨rfl, ?_⟩
    have hc := check_place_eq ho hro by_ kind am key un hz1 hz2
    rw [hE] at hc
    obtain ⟨G1, e1, f1⟩ := hc
    have o1 : G1.ob o = .ins 9 (ordsF o) := (f1.2 o (by omega)).trans ho
    have ru1 : G1.ob (o + 2) = .dct kru := (f1.2 _ (by omega)).trans hru
    have pl1 : G1.ob (o + 3) = .lst ps := (f1.2 _ (by omega)).trans hpl
    have nb1 : G1.ob (o + 4) = .dct kn := (f1.2 _ (by omega)).trans hnb
    have l1 := f1.1
    have e2 := by_key_eq o1 nb1 key
    rw [hk] at e2
    have e2 : m_Orders_by_key [.ref o, .str key] G1 = .ok .non G1 := e2
    obtain ⟨G2, e3, f2, n2, q1, q2⟩ := ord_init ⟨by_, kind, am, key, un, 0, .non, "ready"⟩ G1 rfl rfl rfl
    have o2 : G2.ob o = .ins 9 (ordsF o) := (f2.2 o (by omega)).trans o1
    have ru2 : G2.ob (o + 2) = .dct kru := (f2.2 _ (by omega)).trans ru1
    have pl2 : G2.ob (o + 3) = .lst ps := (f2.2 _ (by omega)).trans pl1
    have nb2 : G2.ob (o + 4) = .dct kn := (f2.2 _ (by omega)).trans nb1
    have e4 := row_for_eq o2 ru2 kind am hR
    have e5 := require_eq _ _ _ q1 (fnd am R).1 (fnd am R).2
    generalize hG3 : (if 0 < (fnd am R).1 then G2.set G1.n (.ins 8 (ordF { (⟨by_, kind, am, key, un, 0, .non, "ready"⟩ : Odr) with rq := (fnd am R).1, ro := (fnd am R).2, st := "waiting" } (G1.n + 1))) else G2) = G3 at e5
    have r3 : G3.ob G1.n = .ins 8 (ordF (newO by_ kind am key un (fnd am R)) (G1.n + 1)) := by
      rw [← hG3]
      unfold newO
      by_cases h : 0 < (fnd am R).1
      · rw [if_pos h, if_pos h, if_pos h, if_pos h, ob_set_same]
      · rw [if_neg h, if_neg h, if_neg h, if_neg h]; exact q1
    have f3 : ∀ j, j ≠ G1.n → G3.ob j = G2.ob j := fun j hj => by
      rw [← hG3]
      split
      · exact ob_set_ne _ _ hj
      · rfl
    have n3 : G3.n = G2.n := by
      rw [← hG3]
      split <;> rfl
    have o3 : G3.ob o = .ins 9 (ordsF o) := (f3 _ (by omega)).trans o2
    have pl3 : G3.ob (o + 3) = .lst ps := (f3 _ (by omega)).trans pl2
    have nb3 : G3.ob (o + 4) = .dct kn := (f3 _ (by omega)).trans nb2
    have d5 : decide ((500 : Int) ≤ (ps.length : Int)) = false := decide_eq_false (by omega)
    have pl4 : ∀ ys, (G3.set (o + 3) (.lst ys)).ob (o + 3) = .lst ys := fun ys => ob_set_same _ _ _
    have o4 : ∀ ys, (G3.set (o + 3) (.lst ys)).ob o = .ins 9 (ordsF o) := fun ys => (ob_set_ne _ _ (by omega)).trans o3
    have nb4 : ∀ ys, (G3.set (o + 3) (.lst ys)).ob (o + 4) = .dct kn := fun ys => (ob_set_ne _ _ (by omega)).trans nb3
    have hlen : lenD (.ref (o + 3)) (G3.set (o + 3) (.lst (ps ++ [.ref G1.n]))) = some (ps.length + 1) := (len_lst (pl4 _)).trans (by rw [List.length_append]; rfl)
    have hset : ∀ v, setO (.ref (o + 4)) (.str key) v (G3.set (o + 3) (.lst (ps ++ [.ref G1.n]))) = some ((G3.set (o + 3) (.lst (ps ++ [.ref G1.n]))).set (o + 4) (.dct (putD kn (.inr key) v))) := fun v => set_dct (nb4 _) rfl (sz2 (by omega))
    have o5 : ∀ z, ((G3.set (o + 3) (.lst (ps ++ [.ref G1.n]))).set (o + 4) z).ob o = .ins 9 (ordsF o) := fun z => (ob_set_ne _ _ (by omega)).trans (o4 _)
    have hlen5 : ∀ z, lenD (.ref (o + 3)) ((G3.set (o + 3) (.lst (ps ++ [.ref G1.n]))).set (o + 4) z) = some (ps.length + 1) := fun z => (len_lst ((ob_set_ne _ _ (by omega)).trans (pl4 _))).trans (by rw [List.length_append]; rfl)
    rw [q_Orders_place_3, w_seq]; simp only [w_ok, w_c, w_v, w_op, w_un, w_b, w_nil, w_cons, w_call, w_tup, w_lst, w_dct0, w_fld, w_meth, w_make, w_mt, w_get2, w_tru, w_asB, w_not, w_and, w_or, w_chain, w_andV, w_orV, w_notV, w_if, w_isi, w_pNone, w_pSome, w_sl, w_nx, w_brk, w_cnt, w_drop, w_ret, w_retN, w_sif, w_raise, gmN, gmT, gmAll, w_asg, w_sfld, w_ssub, w_saug, w_for, w_iseq, w_irng1, w_irng2, slotQ_some, opQ_some, opD_some, getQ_some, opB_some, blQ_bl, tyQ_some, inQ_int, evQ_some, ghQ_some, List.getElem?_cons_zero, List.getElem?_cons_succ, List.set_cons_zero, List.set_cons_succ, List.map_cons, List.map_nil, List.cons_append, List.nil_append, List.replicate, List.length_cons, List.length_nil, o_add, o_sub, o_lt, o_le, o_gt, o_ge, o_les, o_eq, o_ne, o_eqs, o_nes, o_eqb, o_neb, o_is, o_isNot, o_iadd, o_neg, b_int, b_min, b_max, insQ_of ho, e1]
    rw [q_Orders_place_4, w_seq]; simp only [w_ok, w_c, w_v, w_op, w_un, w_b, w_nil, w_cons, w_call, w_tup, w_lst, w_dct0, w_fld, w_meth, w_make, w_mt, w_get2, w_tru, w_asB, w_not, w_and, w_or, w_chain, w_andV, w_orV, w_notV, w_if, w_isi, w_pNone, w_pSome, w_sl, w_nx, w_brk, w_cnt, w_drop, w_ret, w_retN, w_sif, w_raise, gmN, gmT, gmAll, w_asg, w_sfld, w_ssub, w_saug, w_for, w_iseq, w_irng1, w_irng2, slotQ_some, opQ_some, opD_some, getQ_some, opB_some, blQ_bl, tyQ_some, inQ_int, evQ_some, ghQ_some, List.getElem?_cons_zero, List.getElem?_cons_succ, List.set_cons_zero, List.set_cons_succ, List.map_cons, List.map_nil, List.cons_append, List.nil_append, List.replicate, List.length_cons, List.length_nil, o_add, o_sub, o_lt, o_le, o_gt, o_ge, o_les, o_eq, o_ne, o_eqs, o_nes, o_eqb, o_neb, o_is, o_isNot, o_iadd, o_neg, b_int, b_min, b_max, insQ_of o1, e2]
    rw [q_Orders_place_5, w_seq]; simp only [w_ok, w_c, w_v, w_op, w_un, w_b, w_nil, w_cons, w_call, w_tup, w_lst, w_dct0, w_fld, w_meth, w_make, w_mt, w_get2, w_tru, w_asB, w_not, w_and, w_or, w_chain, w_andV, w_orV, w_notV, w_if, w_isi, w_pNone, w_pSome, w_sl, w_nx, w_brk, w_cnt, w_drop, w_ret, w_retN, w_sif, w_raise, gmN, gmT, gmAll, w_asg, w_sfld, w_ssub, w_saug, w_for, w_iseq, w_irng1, w_irng2, slotQ_some, opQ_some, opD_some, getQ_some, opB_some, blQ_bl, tyQ_some, inQ_int, evQ_some, ghQ_some, List.getElem?_cons_zero, List.getElem?_cons_succ, List.set_cons_zero, List.set_cons_succ, List.map_cons, List.map_nil, List.cons_append, List.nil_append, List.replicate, List.length_cons, List.length_nil, o_add, o_sub, o_lt, o_le, o_gt, o_ge, o_les, o_eq, o_ne, o_eqs, o_nes, o_eqb, o_neb, o_is, o_isNot, o_iadd, o_neg, b_int, b_min, b_max, Mi.isNon, Bool.not_true, Bool.false_eq_true, if_false]
    rw [q_Orders_place_6, w_seq]; simp only [w_ok, w_c, w_v, w_op, w_un, w_b, w_nil, w_cons, w_call, w_tup, w_lst, w_dct0, w_fld, w_meth, w_make, w_mt, w_get2, w_tru, w_asB, w_not, w_and, w_or, w_chain, w_andV, w_orV, w_notV, w_if, w_isi, w_pNone, w_pSome, w_sl, w_nx, w_brk, w_cnt, w_drop, w_ret, w_retN, w_sif, w_raise, gmN, gmT, gmAll, w_asg, w_sfld, w_ssub, w_saug, w_for, w_iseq, w_irng1, w_irng2, slotQ_some, opQ_some, opD_some, getQ_some, opB_some, blQ_bl, tyQ_some, inQ_int, evQ_some, ghQ_some, List.getElem?_cons_zero, List.getElem?_cons_succ, List.set_cons_zero, List.set_cons_succ, List.map_cons, List.map_nil, List.cons_append, List.nil_append, List.replicate, List.length_cons, List.length_nil, o_add, o_sub, o_lt, o_le, o_gt, o_ge, o_les, o_eq, o_ne, o_eqs, o_nes, o_eqb, o_neb, o_is, o_isNot, o_iadd, o_neg, b_int, b_min, b_max, g11 o1, b_len (len_lst pl1), d5, Bool.false_eq_true, if_false]
    rw [q_Orders_place_7, w_seq]; simp only [w_ok, w_c, w_v, w_op, w_un, w_b, w_nil, w_cons, w_call, w_tup, w_lst, w_dct0, w_fld, w_meth, w_make, w_mt, w_get2, w_tru, w_asB, w_not, w_and, w_or, w_chain, w_andV, w_orV, w_notV, w_if, w_isi, w_pNone, w_pSome, w_sl, w_nx, w_brk, w_cnt, w_drop, w_ret, w_retN, w_sif, w_raise, gmN, gmT, gmAll, w_asg, w_sfld, w_ssub, w_saug, w_for, w_iseq, w_irng1, w_irng2, slotQ_some, opQ_some, opD_some, getQ_some, opB_some, blQ_bl, tyQ_some, inQ_int, evQ_some, ghQ_some, List.getElem?_cons_zero, List.getElem?_cons_succ, List.set_cons_zero, List.set_cons_succ, List.map_cons, List.map_nil, List.cons_append, List.nil_append, List.replicate, List.length_cons, List.length_nil, o_add, o_sub, o_lt, o_le, o_gt, o_ge, o_les, o_eq, o_ne, o_eqs, o_nes, o_eqb, o_neb, o_is, o_isNot, o_iadd, o_neg, b_int, b_min, b_max, e3, true_and]
    rw [q_Orders_place_8, w_seq]; simp only [w_ok, w_c, w_v, w_op, w_un, w_b, w_nil, w_cons, w_call, w_tup, w_lst, w_dct0, w_fld, w_meth, w_make, w_mt, w_get2, w_tru, w_asB, w_not, w_and, w_or, w_chain, w_andV, w_orV, w_notV, w_if, w_isi, w_pNone, w_pSome, w_sl, w_nx, w_brk, w_cnt, w_drop, w_ret, w_retN, w_sif, w_raise, gmN, gmT, gmAll, w_asg, w_sfld, w_ssub, w_saug, w_for, w_iseq, w_irng1, w_irng2, slotQ_some, opQ_some, opD_some, getQ_some, opB_some, blQ_bl, tyQ_some, inQ_int, evQ_some, ghQ_some, List.getElem?_cons_zero, List.getElem?_cons_succ, List.set_cons_zero, List.set_cons_succ, List.map_cons, List.map_nil, List.cons_append, List.nil_append, List.replicate, List.length_cons, List.length_nil, o_add, o_sub, o_lt, o_le, o_gt, o_ge, o_les, o_eq, o_ne, o_eqs, o_nes, o_eqb, o_neb, o_is, o_isNot, o_iadd, o_neg, b_int, b_min, b_max, insQ_of o2, e4]
    rw [q_Orders_place_9, w_seq]; simp only [w_ok, w_c, w_v, w_op, w_un, w_b, w_nil, w_cons, w_call, w_tup, w_lst, w_dct0, w_fld, w_meth, w_make, w_mt, w_get2, w_tru, w_asB, w_not, w_and, w_or, w_chain, w_andV, w_orV, w_notV, w_if, w_isi, w_pNone, w_pSome, w_sl, w_nx, w_brk, w_cnt, w_drop, w_ret, w_retN, w_sif, w_raise, gmN, gmT, gmAll, w_asg, w_sfld, w_ssub, w_saug, w_for, w_iseq, w_irng1, w_irng2, slotQ_some, opQ_some, opD_some, getQ_some, opB_some, blQ_bl, tyQ_some, inQ_int, evQ_some, ghQ_some, List.getElem?_cons_zero, List.getElem?_cons_succ, List.set_cons_zero, List.set_cons_succ, List.map_cons, List.map_nil, List.cons_append, List.nil_append, List.replicate, List.length_cons, List.length_nil, o_add, o_sub, o_lt, o_le, o_gt, o_ge, o_les, o_eq, o_ne, o_eqs, o_nes, o_eqb, o_neb, o_is, o_isNot, o_iadd, o_neg, b_int, b_min, b_max, insQ_of q1, e5]
    rw [q_Orders_place_10, w_seq]; simp only [w_ok, w_c, w_v, w_op, w_un, w_b, w_nil, w_cons, w_call, w_tup, w_lst, w_dct0, w_fld, w_meth, w_make, w_mt, w_get2, w_tru, w_asB, w_not, w_and, w_or, w_chain, w_andV, w_orV, w_notV, w_if, w_isi, w_pNone, w_pSome, w_sl, w_nx, w_brk, w_cnt, w_drop, w_ret, w_retN, w_sif, w_raise, gmN, gmT, gmAll, w_asg, w_sfld, w_ssub, w_saug, w_for, w_iseq, w_irng1, w_irng2, slotQ_some, opQ_some, opD_some, getQ_some, opB_some, blQ_bl, tyQ_some, inQ_int, evQ_some, ghQ_some, List.getElem?_cons_zero, List.getElem?_cons_succ, List.set_cons_zero, List.set_cons_succ, List.map_cons, List.map_nil, List.cons_append, List.nil_append, List.replicate, List.length_cons, List.length_nil, o_add, o_sub, o_lt, o_le, o_gt, o_ge, o_les, o_eq, o_ne, o_eqs, o_nes, o_eqb, o_neb, o_is, o_isNot, o_iadd, o_neg, b_int, b_min, b_max, g11 o3, isLst_of pl3, true_and, m_append pl3 (sz2 (show ps.length ≤ 1000000 by omega))]
    rw [q_Orders_place_11, w_seq]; simp only [w_ok, w_c, w_v, w_op, w_un, w_b, w_nil, w_cons, w_call, w_tup, w_lst, w_dct0, w_fld, w_meth, w_make, w_mt, w_get2, w_tru, w_asB, w_not, w_and, w_or, w_chain, w_andV, w_orV, w_notV, w_if, w_isi, w_pNone, w_pSome, w_sl, w_nx, w_brk, w_cnt, w_drop, w_ret, w_retN, w_sif, w_raise, gmN, gmT, gmAll, w_asg, w_sfld, w_ssub, w_saug, w_for, w_iseq, w_irng1, w_irng2, slotQ_some, opQ_some, opD_some, getQ_some, opB_some, blQ_bl, tyQ_some, inQ_int, evQ_some, ghQ_some, List.getElem?_cons_zero, List.getElem?_cons_succ, List.set_cons_zero, List.set_cons_succ, List.map_cons, List.map_nil, List.cons_append, List.nil_append, List.replicate, List.length_cons, List.length_nil, o_add, o_sub, o_lt, o_le, o_gt, o_ge, o_les, o_eq, o_ne, o_eqs, o_nes, o_eqb, o_neb, o_is, o_isNot, o_iadd, o_neg, b_int, b_min, b_max, g11 (o4 _), g12 (o4 _), b_len hlen, hset, g11 (o5 _), b_len (hlen5 _)]
    refine ⟨G1.n, G3, by first | rfl | trivial | simp, (by first | rfl | trivial), f1.trans ⟨by omega, fun j hj => (f3 _ (by omega)).trans (f2.2 j hj)⟩, l1, by omega, r3, (f3 _ (by omega)).trans q2⟩
  obtain ⟨d, Gx, e, id, G', rfl, rfl, h⟩ := Rs.ok_of key2
  exact ⟨id, G', e, h⟩
theorem set_rule_ok {kru : List (Key × D)} {R : List Rw} {id : Nat} (ho : G.ob o = .ins 9 (ordsF o)) (hlt : o + 4 < G.n) (hru : G.ob (o + 2) = .dct kru) (hz : kru.length ≤ 1000) (hid : G.ob id = .lst (R.map rowD)) (hi : id < G.n) (kind : Str) (hk : kind.length ≤ 1000000) (h1 : nameB kind.cps.toList = true) (h2 : goodB R = true) :
    ∃ G', m_Orders_set_rule [.ref o, .str kind, .ref id] G = .ok .non (G'.set (o + 2) (.dct (putD kru (.inr kind) (.tup (R.map rowD))))) ∧ Fr G G' := by
  obtain ⟨G1, e1, f1⟩ := check_name_ok kind G hk h1
  have o1 : G1.ob o = .ins 9 (ordsF o) := (f1.2 o (by omega)).trans ho
  have ru1 : G1.ob (o + 2) = .dct kru := (f1.2 _ (by omega)).trans hru
  have id1 : G1.ob id = .lst (R.map rowD) := (f1.2 _ hi).trans hid
  have e2 : m_check_rule [.ref id] G1 = .ok .non G1 := by
    have := check_rule_eq id1
    cases e : m_check_rule [.ref id] G1 with
    | ok a G' => rw [e] at this; obtain ⟨⟨rfl, rfl⟩, _⟩ := this; rfl
    | er c G' => rw [e] at this; obtain ⟨_, z⟩ := this; rw [h2] at z; cases z
    | no => rw [e] at this; exact this.elim
  refine ⟨G1, ?_, f1⟩
  apply eq_of_sat
  unfold m_Orders_set_rule b_Orders_set_rule
  rw [w_fun]
  refine ⟨rfl, ?_⟩
  rw [q_Orders_set_rule_1, w_seq]; simp only [w_ok, w_c, w_v, w_op, w_un, w_b, w_nil, w_cons, w_call, w_tup, w_lst, w_dct0, w_fld, w_meth, w_make, w_mt, w_get2, w_tru, w_asB, w_not, w_and, w_or, w_chain, w_andV, w_orV, w_notV, w_if, w_isi, w_pNone, w_pSome, w_sl, w_nx, w_brk, w_cnt, w_drop, w_ret, w_retN, w_sif, w_raise, gmN, gmT, gmAll, w_asg, w_sfld, w_ssub, w_saug, w_for, w_iseq, w_irng1, w_irng2, slotQ_some, opQ_some, opD_some, getQ_some, opB_some, blQ_bl, tyQ_some, inQ_int, evQ_some, ghQ_some, List.getElem?_cons_zero, List.getElem?_cons_succ, List.set_cons_zero, List.set_cons_succ, List.map_cons, List.map_nil, List.cons_append, List.nil_append, List.replicate, List.length_cons, List.length_nil, o_add, o_sub, o_lt, o_le, o_gt, o_ge, o_les, o_eq, o_ne, o_eqs, o_nes, o_eqb, o_neb, o_is, o_isNot, o_iadd, o_neg, b_int, b_min, b_max, e1]
  rw [q_Orders_set_rule_2, w_seq]; simp only [w_ok, w_c, w_v, w_op, w_un, w_b, w_nil, w_cons, w_call, w_tup, w_lst, w_dct0, w_fld, w_meth, w_make, w_mt, w_get2, w_tru, w_asB, w_not, w_and, w_or, w_chain, w_andV, w_orV, w_notV, w_if, w_isi, w_pNone, w_pSome, w_sl, w_nx, w_brk, w_cnt, w_drop, w_ret, w_retN, w_sif, w_raise, gmN, gmT, gmAll, w_asg, w_sfld, w_ssub, w_saug, w_for, w_iseq, w_irng1, w_irng2, slotQ_some, opQ_some, opD_some, getQ_some, opB_some, blQ_bl, tyQ_some, inQ_int, evQ_some, ghQ_some, List.getElem?_cons_zero, List.getElem?_cons_succ, List.set_cons_zero, List.set_cons_succ, List.map_cons, List.map_nil, List.cons_append, List.nil_append, List.replicate, List.length_cons, List.length_nil, o_add, o_sub, o_lt, o_le, o_gt, o_ge, o_les, o_eq, o_ne, o_eqs, o_nes, o_eqb, o_neb, o_is, o_isNot, o_iadd, o_neg, b_int, b_min, b_max, e2, b_tuple id1, g10 o1, set_dct ru1 (show keyD (.str kind) = some (.inr kind) from rfl) (sz2 (show kru.length ≤ 1000000 by omega))]
  exact ⟨(by first | rfl | trivial), (by first | rfl | trivial)⟩
theorem set_rule_er {R : List Rw} {id : Nat} (hid : G.ob id = .lst (R.map rowD)) (hi : id < G.n) (kind : Str) (hk : kind.length ≤ 1000000) (h : ¬ (nameB kind.cps.toList = true ∧ goodB R = true)) :
    ∃ G', m_Orders_set_rule [.ref o, .str kind, .ref id] G = .er 1 G' ∧ Fr G G' := by
  cases h1 : nameB kind.cps.toList with
  | false =>
    obtain ⟨G1, e1, f1⟩ := check_name_er kind G hk h1
    refine ⟨G1, ?_, f1⟩
    apply eq_of_er
    unfold m_Orders_set_rule b_Orders_set_rule
    rw [w_fun]
    refine ⟨rfl, ?_⟩
    rw [q_Orders_set_rule_1, w_seq]; simp only [w_ok, w_c, w_v, w_op, w_un, w_b, w_nil, w_cons, w_call, w_tup, w_lst, w_dct0, w_fld, w_meth, w_make, w_mt, w_get2, w_tru, w_asB, w_not, w_and, w_or, w_chain, w_andV, w_orV, w_notV, w_if, w_isi, w_pNone, w_pSome, w_sl, w_nx, w_brk, w_cnt, w_drop, w_ret, w_retN, w_sif, w_raise, gmN, gmT, gmAll, w_asg, w_sfld, w_ssub, w_saug, w_for, w_iseq, w_irng1, w_irng2, slotQ_some, opQ_some, opD_some, getQ_some, opB_some, blQ_bl, tyQ_some, inQ_int, evQ_some, ghQ_some, List.getElem?_cons_zero, List.getElem?_cons_succ, List.set_cons_zero, List.set_cons_succ, List.map_cons, List.map_nil, List.cons_append, List.nil_append, List.replicate, List.length_cons, List.length_nil, o_add, o_sub, o_lt, o_le, o_gt, o_ge, o_les, o_eq, o_ne, o_eqs, o_nes, o_eqb, o_neb, o_is, o_isNot, o_iadd, o_neg, b_int, b_min, b_max, e1]
    exact ⟨(by first | rfl | trivial), (by first | rfl | trivial)⟩
  | true =>
    obtain ⟨G1, e1, f1⟩ := check_name_ok kind G hk h1
    have id1 : G1.ob id = .lst (R.map rowD) := (f1.2 _ hi).trans hid
    have e2 : m_check_rule [.ref id] G1 = .er 1 G1 := by
      have := check_rule_eq id1
      cases e : m_check_rule [.ref id] G1 with
      | ok a G' => rw [e] at this; obtain ⟨_, z⟩ := this; exact absurd ⟨h1, z⟩ h
      | er c G' => rw [e] at this; obtain ⟨⟨rfl, rfl⟩, _⟩ := this; rfl
      | no => rw [e] at this; exact this.elim
    refine ⟨G1, ?_, f1⟩
    apply eq_of_er
    unfold m_Orders_set_rule b_Orders_set_rule
    rw [w_fun]
    refine ⟨rfl, ?_⟩
    rw [q_Orders_set_rule_1, w_seq]; simp only [w_ok, w_c, w_v, w_op, w_un, w_b, w_nil, w_cons, w_call, w_tup, w_lst, w_dct0, w_fld, w_meth, w_make, w_mt, w_get2, w_tru, w_asB, w_not, w_and, w_or, w_chain, w_andV, w_orV, w_notV, w_if, w_isi, w_pNone, w_pSome, w_sl, w_nx, w_brk, w_cnt, w_drop, w_ret, w_retN, w_sif, w_raise, gmN, gmT, gmAll, w_asg, w_sfld, w_ssub, w_saug, w_for, w_iseq, w_irng1, w_irng2, slotQ_some, opQ_some, opD_some, getQ_some, opB_some, blQ_bl, tyQ_some, inQ_int, evQ_some, ghQ_some, List.getElem?_cons_zero, List.getElem?_cons_succ, List.set_cons_zero, List.set_cons_succ, List.map_cons, List.map_nil, List.cons_append, List.nil_append, List.replicate, List.length_cons, List.length_nil, o_add, o_sub, o_lt, o_le, o_gt, o_ge, o_les, o_eq, o_ne, o_eqs, o_nes, o_eqb, o_neb, o_is, o_isNot, o_iadd, o_neg, b_int, b_min, b_max, e1]
    rw [q_Orders_set_rule_2, w_seq]; simp only [w_ok, w_c, w_v, w_op, w_un, w_b, w_nil, w_cons, w_call, w_tup, w_lst, w_dct0, w_fld, w_meth, w_make, w_mt, w_get2, w_tru, w_asB, w_not, w_and, w_or, w_chain, w_andV, w_orV, w_notV, w_if, w_isi, w_pNone, w_pSome, w_sl, w_nx, w_brk, w_cnt, w_drop, w_ret, w_retN, w_sif, w_raise, gmN, gmT, gmAll, w_asg, w_sfld, w_ssub, w_saug, w_for, w_iseq, w_irng1, w_irng2, slotQ_some, opQ_some, opD_some, getQ_some, opB_some, blQ_bl, tyQ_some, inQ_int, evQ_some, ghQ_some, List.getElem?_cons_zero, List.getElem?_cons_succ, List.set_cons_zero, List.set_cons_succ, List.map_cons, List.map_nil, List.cons_append, List.nil_append, List.replicate, List.length_cons, List.length_nil, o_add, o_sub, o_lt, o_le, o_gt, o_ge, o_les, o_eq, o_ne, o_eqs, o_nes, o_eqb, o_neb, o_is, o_isNot, o_iadd, o_neg, b_int, b_min, b_max, e2]
    exact ⟨(by first | rfl | trivial), (by first | rfl | trivial)⟩
theorem order_eq {ps : List D} {x : Odr} {id gl : Nat} {gs : List D} {n : Nat} (hid : id < G.n) (ho : G.ob o = .ins 9 (ordsF o)) (hpl : G.ob (o + 3) = .lst ps) (hn : ps[n]? = some (.ref id)) (h1 : G.ob id = .ins 8 (ordF x gl)) (h2 : G.ob gl = .lst gs) :
    m_Orders_order [.ref o, .int ((n : Int) + 1)] G = .ok (.tup [.str x.mr, .str x.kd, .int x.am, .str x.ky, .int x.un, .int x.rq, x.ro, .ref G.n, .str x.st]) (G.push (.lst gs)) := by
  have hlt : n < ps.length := (List.getElem?_eq_some_iff.mp hn).1
  have e1 : m_Orders_at_number [.ref o, .int ((n : Int) + 1)] G = .ok (.ref id) G := by
    apply eq_of_sat
    unfold m_Orders_at_number b_Orders_at_number
    rw [w_fun]
    refine ⟨rfl, ?_⟩
    have d1 : decide ((1 : Int) ≤ (n : Int) + 1) = true := decide_eq_true (by omega)
    have d2 : decide ((n : Int) + 1 ≤ (ps.length : Int)) = true := decide_eq_true (by omega)
    have ix : opIx (.ref (o + 3)) (.int ((n : Int) + 1 - 1)) G = some (.ref id, G) := ix_lst hpl (atI_int (by omega) (by rw [show ((n : Int) + 1 - 1).toNat = n by omega]; exact hn))
    rw [q_Orders_at_number_1, w_seq]; simp only [w_ok, w_c, w_v, w_op, w_un, w_b, w_nil, w_cons, w_call, w_tup, w_lst, w_dct0, w_fld, w_meth, w_make, w_mt, w_get2, w_tru, w_asB, w_not, w_and, w_or, w_chain, w_andV, w_orV, w_notV, w_if, w_isi, w_pNone, w_pSome, w_sl, w_nx, w_brk, w_cnt, w_drop, w_ret, w_retN, w_sif, w_raise, gmN, gmT, gmAll, w_asg, w_sfld, w_ssub, w_saug, w_for, w_iseq, w_irng1, w_irng2, slotQ_some, opQ_some, opD_some, getQ_some, opB_some, blQ_bl, tyQ_some, inQ_int, evQ_some, ghQ_some, List.getElem?_cons_zero, List.getElem?_cons_succ, List.set_cons_zero, List.set_cons_succ, List.map_cons, List.map_nil, List.cons_append, List.nil_append, List.replicate, List.length_cons, List.length_nil, o_add, o_sub, o_lt, o_le, o_gt, o_ge, o_les, o_eq, o_ne, o_eqs, o_nes, o_eqb, o_neb, o_is, o_isNot, o_iadd, o_neg, b_int, b_min, b_max, g11 ho, b_len (len_lst hpl), d1, d2, if_true, Bool.not_true, Bool.false_eq_true, if_false, ix]
    exact ⟨(by first | rfl | trivial), (by first | rfl | trivial)⟩
  have f : ∀ (k : Nat) (d : D), na 8 k = true → valD (ordF x gl) k = some d → fldO na k (.ref id) G = some d := fun k d hk hv => fld_of h1 hk hv
  have e2 : m_Order_told [.ref id] G = .ok (.tup [.str x.mr, .str x.kd, .int x.am, .str x.ky, .int x.un, .int x.rq, x.ro, .ref G.n, .str x.st]) (G.push (.lst gs)) := by
    apply eq_of_sat
    unfold m_Order_told b_Order_told
    rw [w_fun]
    refine ⟨rfl, ?_⟩
    have f8 : fldO na 8 (.ref id) (G.push (.lst gs)) = some (.str x.st) := fld_of (push_ob h1 hid _) rfl rfl
    simp only [w_ok, w_c, w_v, w_op, w_un, w_b, w_nil, w_cons, w_call, w_tup, w_lst, w_dct0, w_fld, w_meth, w_make, w_mt, w_get2, w_tru, w_asB, w_not, w_and, w_or, w_chain, w_andV, w_orV, w_notV, w_if, w_isi, w_pNone, w_pSome, w_sl, w_nx, w_brk, w_cnt, w_drop, w_ret, w_retN, w_sif, w_raise, gmN, gmT, gmAll, w_asg, w_sfld, w_ssub, w_saug, w_for, w_iseq, w_irng1, w_irng2, slotQ_some, opQ_some, opD_some, getQ_some, opB_some, blQ_bl, tyQ_some, inQ_int, evQ_some, ghQ_some, List.getElem?_cons_zero, List.getElem?_cons_succ, List.set_cons_zero, List.set_cons_succ, List.map_cons, List.map_nil, List.cons_append, List.nil_append, List.replicate, List.length_cons, List.length_nil, f 0 _ rfl rfl, f 1 _ rfl rfl, f 2 _ rfl rfl, f 3 _ rfl rfl, f 4 _ rfl rfl, f 5 _ rfl rfl, f 6 _ rfl rfl, f 7 _ rfl rfl, b_list h2, f8]
    exact ⟨by decide, (by first | rfl | trivial), (by first | rfl | trivial)⟩
  apply eq_of_sat
  unfold m_Orders_order b_Orders_order
  rw [w_fun]
  refine ⟨rfl, ?_⟩
  simp only [w_ok, w_c, w_v, w_op, w_un, w_b, w_nil, w_cons, w_call, w_tup, w_lst, w_dct0, w_fld, w_meth, w_make, w_mt, w_get2, w_tru, w_asB, w_not, w_and, w_or, w_chain, w_andV, w_orV, w_notV, w_if, w_isi, w_pNone, w_pSome, w_sl, w_nx, w_brk, w_cnt, w_drop, w_ret, w_retN, w_sif, w_raise, gmN, gmT, gmAll, w_asg, w_sfld, w_ssub, w_saug, w_for, w_iseq, w_irng1, w_irng2, slotQ_some, opQ_some, opD_some, getQ_some, opB_some, blQ_bl, tyQ_some, inQ_int, evQ_some, ghQ_some, List.getElem?_cons_zero, List.getElem?_cons_succ, List.set_cons_zero, List.set_cons_succ, List.map_cons, List.map_nil, List.cons_append, List.nil_append, List.replicate, List.length_cons, List.length_nil, o_add, o_sub, o_lt, o_le, o_gt, o_ge, o_les, o_eq, o_ne, o_eqs, o_nes, o_eqb, o_neb, o_is, o_isNot, o_iadd, o_neg, b_int, b_min, b_max, insQ_of ho, e1, insQ_of h1, e2]
  exact ⟨(by first | rfl | trivial), (by first | rfl | trivial)⟩
end
end Lw
namespace Lw
open PySem PySem.Spec PyProof.Rows L2 Mi
/-! a new Orders, its users -/
theorem init_ords (G : Gh) : ∃ G', m_Orders_init [.ref G.n] (G.push (.ins 9 [])) = .ok .non G' ∧ Fr G G' ∧ G'.n = G.n + 5 ∧ G'.ob G.n = .ins 9 (ordsF G.n) ∧ G'.ob (G.n + 1) = .dct [] ∧ G'.ob (G.n + 2) = .dct [] ∧ G'.ob (G.n + 3) = .lst [] ∧ G'.ob (G.n + 4) = .dct [] := by
  have key : (m_Orders_init [.ref G.n] (G.push (.ins 9 []))).sat (fun d G' => d = .non ∧ Fr G G' ∧ G'.n = G.n + 5 ∧ G'.ob G.n = .ins 9 (ordsF G.n) ∧ G'.ob (G.n + 1) = .dct [] ∧ G'.ob (G.n + 2) = .dct [] ∧ G'.ob (G.n + 3) = .lst [] ∧ G'.ob (G.n + 4) = .dct []) nE := by
    unfold m_Orders_init b_Orders_init
    rw [w_fun]
    refine ⟨rfl, ?_⟩
    have s1 := setFld_ok (na := na) (f := 9) (d := .ref (G.n + 1)) (G := (G.push (.ins 9 [])).push (.dct [])) (l := G.n) (c := 9) (fs := []) (by rw [ob_push_ne _ _ (by rw [n_push]; omega), ob_push_same]) rfl (by decide)
    rw [q_Orders_init_1, w_seq]; simp only [w_ok, w_c, w_v, w_op, w_un, w_b, w_nil, w_cons, w_call, w_tup, w_lst, w_dct0, w_fld, w_meth, w_make, w_mt, w_get2, w_tru, w_asB, w_not, w_and, w_or, w_chain, w_andV, w_orV, w_notV, w_if, w_isi, w_pNone, w_pSome, w_sl, w_nx, w_brk, w_cnt, w_drop, w_ret, w_retN, w_sif, w_raise, gmN, gmT, gmAll, w_asg, w_sfld, w_ssub, w_saug, w_for, w_iseq, w_irng1, w_irng2, slotQ_some, opQ_some, opD_some, getQ_some, opB_some, blQ_bl, tyQ_some, inQ_int, evQ_some, ghQ_some, List.getElem?_cons_zero, List.getElem?_cons_succ, List.set_cons_zero, List.set_cons_succ, List.map_cons, List.map_nil, List.cons_append, List.nil_append, List.replicate, List.length_cons, List.length_nil, o_add, o_sub, o_lt, o_le, o_gt, o_ge, o_les, o_eq, o_ne, o_eqs, o_nes, o_eqb, o_neb, o_is, o_isNot, o_iadd, o_neg, b_int, b_min, b_max, n_push, s1]
    generalize hG1 : ((G.push (.ins 9 [])).push (.dct [])).set G.n (.ins 9 (putD [] 9 (.ref (G.n + 1)))) = G1
    have n1 : G1.n = G.n + 2 := by rw [← hG1]; rfl
    have o1 : G1.ob G.n = .ins 9 [(9, .ref (G.n + 1))] := by rw [← hG1, ob_set_same]; rfl
    have a1 : G1.ob (G.n + 1) = .dct [] := by rw [← hG1, ob_set_ne _ _ (by omega)]; exact ob_push_same (G.push _) _
    have f1 : Fr G G1 := ⟨by omega, fun j hj => by rw [← hG1, ob_set_ne _ _ (by omega), ob_push_ne _ _ (by rw [n_push]; omega), ob_push_ne _ _ (by omega)]⟩
    have s2 := setFld_ok (na := na) (f := 10) (d := .ref (G.n + 2)) (G := G1.push (.dct [])) (l := G.n) (c := 9) (by rw [ob_push_ne _ _ (by omega)]; exact o1) rfl (by show 1 < 1000; decide)
    rw [q_Orders_init_2, w_seq]; simp only [w_ok, w_c, w_v, w_op, w_un, w_b, w_nil, w_cons, w_call, w_tup, w_lst, w_dct0, w_fld, w_meth, w_make, w_mt, w_get2, w_tru, w_asB, w_not, w_and, w_or, w_chain, w_andV, w_orV, w_notV, w_if, w_isi, w_pNone, w_pSome, w_sl, w_nx, w_brk, w_cnt, w_drop, w_ret, w_retN, w_sif, w_raise, gmN, gmT, gmAll, w_asg, w_sfld, w_ssub, w_saug, w_for, w_iseq, w_irng1, w_irng2, slotQ_some, opQ_some, opD_some, getQ_some, opB_some, blQ_bl, tyQ_some, inQ_int, evQ_some, ghQ_some, List.getElem?_cons_zero, List.getElem?_cons_succ, List.set_cons_zero, List.set_cons_succ, List.map_cons, List.map_nil, List.cons_append, List.nil_append, List.replicate, List.length_cons, List.length_nil, o_add, o_sub, o_lt, o_le, o_gt, o_ge, o_les, o_eq, o_ne, o_eqs, o_nes, o_eqb, o_neb, o_is, o_isNot, o_iadd, o_neg, b_int, b_min, b_max, n1, s2]
    generalize hG2 : (G1.push (.dct [])).set G.n (.ins 9 (putD [(9, .ref (G.n + 1))] 10 (.ref (G.n + 2)))) = G2
    have n2 : G2.n = G.n + 3 := by rw [← hG2, n_set, n_push, n1]
    have o2 : G2.ob G.n = .ins 9 [(9, .ref (G.n + 1)), (10, .ref (G.n + 2))] := by rw [← hG2, ob_set_same]; rfl
    have a2 : G2.ob (G.n + 1) = .dct [] := by rw [← hG2, ob_set_ne _ _ (by omega), ob_push_ne _ _ (by omega)]; exact a1
    have b2 : G2.ob (G.n + 2) = .dct [] := by rw [← hG2, ob_set_ne _ _ (by omega), ← n1]; exact ob_push_same _ _
    have f2 : Fr G G2 := ⟨by omega, fun j hj => by rw [← hG2, ob_set_ne _ _ (by omega), ob_push_ne _ _ (by omega)]; exact f1.2 j hj⟩
    have s3 := setFld_ok (na := na) (f := 11) (d := .ref (G.n + 3)) (G := G2.push (.lst [])) (l := G.n) (c := 9) (by rw [ob_push_ne _ _ (by omega)]; exact o2) rfl (by show 2 < 1000; decide)
    rw [q_Orders_init_3, w_seq]; simp only [w_ok, w_c, w_v, w_op, w_un, w_b, w_nil, w_cons, w_call, w_tup, w_lst, w_dct0, w_fld, w_meth, w_make, w_mt, w_get2, w_tru, w_asB, w_not, w_and, w_or, w_chain, w_andV, w_orV, w_notV, w_if, w_isi, w_pNone, w_pSome, w_sl, w_nx, w_brk, w_cnt, w_drop, w_ret, w_retN, w_sif, w_raise, gmN, gmT, gmAll, w_asg, w_sfld, w_ssub, w_saug, w_for, w_iseq, w_irng1, w_irng2, slotQ_some, opQ_some, opD_some, getQ_some, opB_some, blQ_bl, tyQ_some, inQ_int, evQ_some, ghQ_some, List.getElem?_cons_zero, List.getElem?_cons_succ, List.set_cons_zero, List.set_cons_succ, List.map_cons, List.map_nil, List.cons_append, List.nil_append, List.replicate, List.length_cons, List.length_nil, o_add, o_sub, o_lt, o_le, o_gt, o_ge, o_les, o_eq, o_ne, o_eqs, o_nes, o_eqb, o_neb, o_is, o_isNot, o_iadd, o_neg, b_int, b_min, b_max, n2, s3]
    refine ⟨Nat.zero_le _, ?_⟩
    generalize hG3 : (G2.push (.lst [])).set G.n (.ins 9 (putD [(9, .ref (G.n + 1)), (10, .ref (G.n + 2))] 11 (.ref (G.n + 3)))) = G3
    have n3 : G3.n = G.n + 4 := by rw [← hG3, n_set, n_push, n2]
    have o3 : G3.ob G.n = .ins 9 [(9, .ref (G.n + 1)), (10, .ref (G.n + 2)), (11, .ref (G.n + 3))] := by rw [← hG3, ob_set_same]; rfl
    have a3 : G3.ob (G.n + 1) = .dct [] := by rw [← hG3, ob_set_ne _ _ (by omega), ob_push_ne _ _ (by omega)]; exact a2
    have b3 : G3.ob (G.n + 2) = .dct [] := by rw [← hG3, ob_set_ne _ _ (by omega), ob_push_ne _ _ (by omega)]; exact b2
    have c3 : G3.ob (G.n + 3) = .lst [] := by rw [← hG3, ob_set_ne _ _ (by omega), ← n2]; exact ob_push_same _ _
    have f3 : Fr G G3 := ⟨by omega, fun j hj => by rw [← hG3, ob_set_ne _ _ (by omega), ob_push_ne _ _ (by omega)]; exact f2.2 j hj⟩
    have s4 := setFld_ok (na := na) (f := 12) (d := .ref (G.n + 4)) (G := G3.push (.dct [])) (l := G.n) (c := 9) (by rw [ob_push_ne _ _ (by omega)]; exact o3) rfl (by show 3 < 1000; decide)
    simp only [w_ok, w_c, w_v, w_op, w_un, w_b, w_nil, w_cons, w_call, w_tup, w_lst, w_dct0, w_fld, w_meth, w_make, w_mt, w_get2, w_tru, w_asB, w_not, w_and, w_or, w_chain, w_andV, w_orV, w_notV, w_if, w_isi, w_pNone, w_pSome, w_sl, w_nx, w_brk, w_cnt, w_drop, w_ret, w_retN, w_sif, w_raise, gmN, gmT, gmAll, w_asg, w_sfld, w_ssub, w_saug, w_for, w_iseq, w_irng1, w_irng2, slotQ_some, opQ_some, opD_some, getQ_some, opB_some, blQ_bl, tyQ_some, inQ_int, evQ_some, ghQ_some, List.getElem?_cons_zero, List.getElem?_cons_succ, List.set_cons_zero, List.set_cons_succ, List.map_cons, List.map_nil, List.cons_append, List.nil_append, List.replicate, List.length_cons, List.length_nil, o_add, o_sub, o_lt, o_le, o_gt, o_ge, o_les, o_eq, o_ne, o_eqs, o_nes, o_eqb, o_neb, o_is, o_isNot, o_iadd, o_neg, b_int, b_min, b_max, n3, s4]
    refine ⟨(by first | rfl | trivial), ⟨?_, fun j hj => ?_⟩, ?_, ?_, ?_, ?_, ?_, ?_⟩
    · rw [n_set, n_push]; omega
    · rw [ob_set_ne _ _ (by omega), ob_push_ne _ _ (by omega)]; exact f3.2 j hj
    · rw [n_set, n_push]; omega
    · rw [ob_set_same]; rfl
    · rw [ob_set_ne _ _ (by omega), ob_push_ne _ _ (by omega)]; exact a3
    · rw [ob_set_ne _ _ (by omega), ob_push_ne _ _ (by omega)]; exact b3
    · rw [ob_set_ne _ _ (by omega), ob_push_ne _ _ (by omega)]; exact c3
    · rw [ob_set_ne _ _ (by omega), ← n3]; exact ob_push_same _ _
  obtain ⟨d, G', e, rfl, h⟩ := Rs.ok_of key
  exact ⟨G', e, h⟩
section
variable {G : Gh} {o : Nat}
theorem add_user_ok {kro : List (Key × D)} (ho : G.ob o = .ins 9 (ordsF o)) (hlt : o + 4 < G.n) (hro : G.ob (o + 1) = .dct kro) (hz : kro.length ≤ 1000) (x role : Str) (hx : x.length ≤ 1000000) (h1 : nameB x.cps.toList = true) (h2 : roleB role = true) (h3 : valD kro (.inr x) = none) :
    ∃ G', m_Orders_add_user [.ref o, .str x, .str role] G = .ok .non (G'.set (o + 1) (.dct (putD kro (.inr x) (.str role)))) ∧ Fr G G' := by
  obtain ⟨G1, e1, f1⟩ := check_name_ok x G hx h1
  have o1 : G1.ob o = .ins 9 (ordsF o) := (f1.2 o (by omega)).trans ho
  have ro1 : G1.ob (o + 1) = .dct kro := (f1.2 _ (by omega)).trans hro
  refine ⟨G1, ?_, f1⟩
  apply eq_of_sat
  unfold m_Orders_add_user b_Orders_add_user
  rw [w_fun]
  refine ⟨rfl, ?_⟩
  rw [q_Orders_add_user_1, w_seq]; simp only [w_ok, w_c, w_v, w_op, w_un, w_b, w_nil, w_cons, w_call, w_tup, w_lst, w_dct0, w_fld, w_meth, w_make, w_mt, w_get2, w_tru, w_asB, w_not, w_and, w_or, w_chain, w_andV, w_orV, w_notV, w_if, w_isi, w_pNone, w_pSome, w_sl, w_nx, w_brk, w_cnt, w_drop, w_ret, w_retN, w_sif, w_raise, gmN, gmT, gmAll, w_asg, w_sfld, w_ssub, w_saug, w_for, w_iseq, w_irng1, w_irng2, slotQ_some, opQ_some, opD_some, getQ_some, opB_some, blQ_bl, tyQ_some, inQ_int, evQ_some, ghQ_some, List.getElem?_cons_zero, List.getElem?_cons_succ, List.set_cons_zero, List.set_cons_succ, List.map_cons, List.map_nil, List.cons_append, List.nil_append, List.replicate, List.length_cons, List.length_nil, o_add, o_sub, o_lt, o_le, o_gt, o_ge, o_les, o_eq, o_ne, o_eqs, o_nes, o_eqb, o_neb, o_is, o_isNot, o_iadd, o_neg, b_int, b_min, b_max, e1]
  rw [q_Orders_add_user_2, w_seq]; simp only [w_ok, w_c, w_v, w_op, w_un, w_b, w_nil, w_cons, w_call, w_tup, w_lst, w_dct0, w_fld, w_meth, w_make, w_mt, w_get2, w_tru, w_asB, w_not, w_and, w_or, w_chain, w_andV, w_orV, w_notV, w_if, w_isi, w_pNone, w_pSome, w_sl, w_nx, w_brk, w_cnt, w_drop, w_ret, w_retN, w_sif, w_raise, gmN, gmT, gmAll, w_asg, w_sfld, w_ssub, w_saug, w_for, w_iseq, w_irng1, w_irng2, slotQ_some, opQ_some, opD_some, getQ_some, opB_some, blQ_bl, tyQ_some, inQ_int, evQ_some, ghQ_some, List.getElem?_cons_zero, List.getElem?_cons_succ, List.set_cons_zero, List.set_cons_succ, List.map_cons, List.map_nil, List.cons_append, List.nil_append, List.replicate, List.length_cons, List.length_nil, o_add, o_sub, o_lt, o_le, o_gt, o_ge, o_les, o_eq, o_ne, o_eqs, o_nes, o_eqb, o_neb, o_is, o_isNot, o_iadd, o_neg, b_int, b_min, b_max, c_ROLES, notin_roles, h2, Bool.not_true, Bool.false_eq_true, if_false]
  rw [q_Orders_add_user_3, w_seq]; simp only [w_ok, w_c, w_v, w_op, w_un, w_b, w_nil, w_cons, w_call, w_tup, w_lst, w_dct0, w_fld, w_meth, w_make, w_mt, w_get2, w_tru, w_asB, w_not, w_and, w_or, w_chain, w_andV, w_orV, w_notV, w_if, w_isi, w_pNone, w_pSome, w_sl, w_nx, w_brk, w_cnt, w_drop, w_ret, w_retN, w_sif, w_raise, gmN, gmT, gmAll, w_asg, w_sfld, w_ssub, w_saug, w_for, w_iseq, w_irng1, w_irng2, slotQ_some, opQ_some, opD_some, getQ_some, opB_some, blQ_bl, tyQ_some, inQ_int, evQ_some, ghQ_some, List.getElem?_cons_zero, List.getElem?_cons_succ, List.set_cons_zero, List.set_cons_succ, List.map_cons, List.map_nil, List.cons_append, List.nil_append, List.replicate, List.length_cons, List.length_nil, o_add, o_sub, o_lt, o_le, o_gt, o_ge, o_les, o_eq, o_ne, o_eqs, o_nes, o_eqb, o_neb, o_is, o_isNot, o_iadd, o_neg, b_int, b_min, b_max, g9 o1, in_dct x ro1, h3, Option.isSome_none, Bool.false_eq_true, if_false, set_dct ro1 (show keyD (.str x) = some (.inr x) from rfl) (sz2 (show kro.length ≤ 1000000 by omega))]
  exact ⟨(by first | rfl | trivial), (by first | rfl | trivial)⟩
end
end Lw
namespace Lw
open PySem PySem.Spec PyProof.Rows L2 Mi
/-! k50: six names alike but for one sign -/
theorem other_gen (l : List Nat) (n : Int) (x y : Nat) (G : Gh) (h0 : l ≠ []) (hz : l.length ≤ 1000) (hxy : x ≠ y) : ∃ p c, ∃ h : p < l.length, (c = x ∨ c = y) ∧ c ≠ l[p] ∧ m_law_other [.str (nmS l), .int n, .str (nmS [x]), .str (nmS [y])] G = .ok (.str (nmS (l.take p ++ [c] ++ l.drop (p + 1)))) G := by
  have hl1 : 1 ≤ l.length := List.length_pos_iff.mpr h0
  obtain ⟨p, hp, hpl⟩ : ∃ p : Nat, n % (l.length : Int) = (p : Int) ∧ p < l.length := by
    have h1 := Int.emod_nonneg n (show (l.length : Int) ≠ 0 by omega)
    have h2 := Int.emod_lt_of_pos n (show (0 : Int) < (l.length : Int) by omega)
    exact ⟨(n % (l.length : Int)).toNat, by omega, by omega⟩
  have ixp : opIx (.str (nmS l)) (.int (p : Int)) G = some (.str (nmS [l[p]]), G) := ix_str (z := nmS l) (by rw [nm_len]; omega) (by rw [nm_cps]; exact atI_natG hpl)
  have cat : ∀ c : Nat, opAdd (.str (nmS (l.take p))) (.str (nmS [c])) G = some (.str (nmS (l.take p ++ [c])), G) := fun c => nm_cat (by rw [List.length_take, List.length_singleton]; omega)
  have cat2 : ∀ c : Nat, opAdd (.str (nmS (l.take p ++ [c]))) (.str (nmS (l.drop (p + 1)))) G = some (.str (nmS (l.take p ++ [c] ++ l.drop (p + 1))), G) := fun c => nm_cat (by rw [List.length_append, List.length_take, List.length_drop, List.length_singleton]; omega)
  have c1 : slD (.str (nmS l)) none (some (p : Int)) G = some (.str (nmS (l.take p)), G) := cut_to (by omega) (by omega)
  have c2 : slD (.str (nmS l)) (some ((p : Int) + 1)) none G = some (.str (nmS (l.drop (p + 1))), G) := cut_from (p := p + 1) (by omega) (by omega)
  have key : (m_law_other [.str (nmS l), .int n, .str (nmS [x]), .str (nmS [y])] G).sat (fun d G' => ∃ c, (c = x ∨ c = y) ∧ c ≠ l[p] ∧ d = .str (nmS (l.take p ++ [c] ++ l.drop (p + 1))) ∧ G' = G) nE := by
    unfold m_law_other b_law_other
    rw [w_fun]
    refine ⟨rfl, ?_⟩
    rw [q_law_other_1, w_seq]; simp only [w_ok, w_c, w_v, w_op, w_un, w_b, w_nil, w_cons, w_call, w_tup, w_lst, w_dct0, w_fld, w_meth, w_make, w_mt, w_get2, w_tru, w_asB, w_not, w_and, w_or, w_chain, w_andV, w_orV, w_notV, w_if, w_isi, w_pNone, w_pSome, w_sl, w_nx, w_brk, w_cnt, w_drop, w_ret, w_retN, w_sif, w_raise, gmN, gmT, gmAll, w_asg, w_sfld, w_ssub, w_saug, w_for, w_iseq, w_irng1, w_irng2, slotQ_some, opQ_some, opD_some, getQ_some, opB_some, blQ_bl, tyQ_some, inQ_int, evQ_some, ghQ_some, List.getElem?_cons_zero, List.getElem?_cons_succ, List.set_cons_zero, List.set_cons_succ, List.map_cons, List.map_nil, List.cons_append, List.nil_append, List.replicate, List.length_cons, List.length_nil, o_add, o_sub, o_lt, o_le, o_gt, o_ge, o_les, o_eq, o_ne, o_eqs, o_nes, o_eqb, o_neb, o_is, o_isNot, o_iadd, o_neg, b_int, b_min, b_max, b_len (len_str (z := nmS l) (by rw [nm_len]; omega)), nm_len, o_mod (show (0 : Int) < (l.length : Int) by omega), hp]
    rw [q_law_other_2, w_seq, w_sif]
    simp only [w_asB, w_op, w_v, List.getElem?_cons_zero, List.getElem?_cons_succ, slotQ_some, ixp, opQ_some, o_eqs, blQ_bl, List.set_cons_succ, List.set_cons_zero]
    by_cases hx : nmS [l[p]] = nmS [x]
    · simp only [decide_eq_true hx, if_true]
      simp only [c1, c2, cat, cat2, w_ok, w_c, w_v, w_op, w_un, w_b, w_nil, w_cons, w_call, w_tup, w_lst, w_dct0, w_fld, w_meth, w_make, w_mt, w_get2, w_tru, w_asB, w_not, w_and, w_or, w_chain, w_andV, w_orV, w_notV, w_if, w_isi, w_pNone, w_pSome, w_sl, w_nx, w_brk, w_cnt, w_drop, w_ret, w_retN, w_sif, w_raise, gmN, gmT, gmAll, w_asg, w_sfld, w_ssub, w_saug, w_for, w_iseq, w_irng1, w_irng2, slotQ_some, opQ_some, opD_some, getQ_some, opB_some, blQ_bl, tyQ_some, inQ_int, evQ_some, ghQ_some, List.getElem?_cons_zero, List.getElem?_cons_succ, List.set_cons_zero, List.set_cons_succ, List.map_cons, List.map_nil, List.cons_append, List.nil_append, List.replicate, List.length_cons, List.length_nil, o_add, o_sub, o_lt, o_le, o_gt, o_ge, o_les, o_eq, o_ne, o_eqs, o_nes, o_eqb, o_neb, o_is, o_isNot, o_iadd, o_neg, b_int, b_min, b_max]
      have : l[p] = x := by
        have := congrArg (fun z => z.cps.toList) hx
        simpa [nmS] using this
      exact ⟨y, .inr rfl, by rw [this]; exact fun e => hxy e.symm, (by first | rfl | trivial), (by first | rfl | trivial)⟩
    · simp only [decide_eq_false hx, Bool.false_eq_true, if_false]
      simp only [c1, c2, cat, cat2, w_ok, w_c, w_v, w_op, w_un, w_b, w_nil, w_cons, w_call, w_tup, w_lst, w_dct0, w_fld, w_meth, w_make, w_mt, w_get2, w_tru, w_asB, w_not, w_and, w_or, w_chain, w_andV, w_orV, w_notV, w_if, w_isi, w_pNone, w_pSome, w_sl, w_nx, w_brk, w_cnt, w_drop, w_ret, w_retN, w_sif, w_raise, gmN, gmT, gmAll, w_asg, w_sfld, w_ssub, w_saug, w_for, w_iseq, w_irng1, w_irng2, slotQ_some, opQ_some, opD_some, getQ_some, opB_some, blQ_bl, tyQ_some, inQ_int, evQ_some, ghQ_some, List.getElem?_cons_zero, List.getElem?_cons_succ, List.set_cons_zero, List.set_cons_succ, List.map_cons, List.map_nil, List.cons_append, List.nil_append, List.replicate, List.length_cons, List.length_nil, o_add, o_sub, o_lt, o_le, o_gt, o_ge, o_les, o_eq, o_ne, o_eqs, o_nes, o_eqb, o_neb, o_is, o_isNot, o_iadd, o_neg, b_int, b_min, b_max]
      exact ⟨x, .inl rfl, fun e => hx (by rw [e]), (by first | rfl | trivial), (by first | rfl | trivial)⟩
  obtain ⟨d, G', e, c, h1, h2, rfl, rfl⟩ := Rs.ok_of key
  exact ⟨p, c, hpl, h1, h2, e⟩
def putS (l : List Nat) (p c : Nat) : List Nat := l.take p ++ [c] ++ l.drop (p + 1)
theorem putS_at {l : List Nat} {p c q : Nat} (h : p < l.length) : (putS l p c)[q]? = if q = p then some c else l[q]? := by
  unfold putS
  rw [List.append_assoc]
  by_cases h1 : q < p
  · rw [List.getElem?_append_left (by rw [List.length_take]; omega), if_neg (by omega), List.getElem?_take, if_pos h1]
  · rw [List.getElem?_append_right (by rw [List.length_take]; omega), List.length_take, Nat.min_eq_left (by omega)]
    by_cases h2 : q = p
    · subst h2
      rw [Nat.sub_self, if_pos rfl]; rfl
    · rw [if_neg h2, show q - p = (q - p - 1) + 1 by omega]
      show (l.drop (p + 1))[q - p - 1]? = _
      rw [List.getElem?_drop]
      congr 1
      omega
theorem putS_ne {l : List Nat} {p c p' c' : Nat} (h : p < l.length) (h' : p' < l.length) (hc : c ≠ l[p]) (hc' : c' ≠ l[p']) (hd : c ≠ c') : putS l p c ≠ putS l p' c' := by
  intro e
  have e1 := congrArg (fun z => z[p]?) e
  simp only [putS_at h, putS_at h', if_true] at e1
  by_cases hp : p = p'
  · rw [if_pos hp] at e1
    exact hd (Option.some.inj e1)
  · rw [if_neg hp, List.getElem?_eq_getElem h] at e1
    exact hc (Option.some.inj e1)
theorem putS_ne0 {l : List Nat} {p c : Nat} (h : p < l.length) (hc : c ≠ l[p]) : l ≠ putS l p c := by
  intro e
  have e1 := congrArg (fun z => z[p]?) e
  simp only [putS_at h, if_true] at e1
  rw [List.getElem?_eq_getElem h] at e1
  exact hc (Option.some.inj e1).symm
/-- one sign of the other name is of the pair -/
structure Alike (l l' : List Nat) (x y : Nat) : Prop where
  at_ : ∃ p c, ∃ h : p < l.length, (c = x ∨ c = y) ∧ c ≠ l[p] ∧ l' = putS l p c
theorem Alike.ne {l l1 l2 : List Nat} {x y x' y' : Nat} (a : Alike l l1 x y) (b : Alike l l2 x' y') (h : x ≠ x' ∧ x ≠ y' ∧ y ≠ x' ∧ y ≠ y') : l1 ≠ l2 := by
  obtain ⟨p, c, h1, hc, hn, rfl⟩ := a
  obtain ⟨p', c', h1', hc', hn', rfl⟩ := b
  refine putS_ne h1 h1' hn hn' ?_
  rcases hc with rfl | rfl <;> rcases hc' with rfl | rfl
  · exact h.1
  · exact h.2.1
  · exact h.2.2.1
  · exact h.2.2.2
theorem Alike.ne0 {l l1 : List Nat} {x y : Nat} (a : Alike l l1 x y) : l ≠ l1 := by
  obtain ⟨p, c, h1, hc, hn, rfl⟩ := a
  exact putS_ne0 h1 hn
theorem Alike.name {l l1 : List Nat} {x y : Nat} (a : Alike l l1 x y) (hl : nameB l = true) (hx : x ∈ LET) (hy : y ∈ LET) : nameB l1 = true := by
  obtain ⟨hg, hl1, hl2⟩ := nameB_gn hl
  obtain ⟨p, c, hpl, hc, hn, rfl⟩ := a
  have hcl : c ∈ LET := by rcases hc with rfl | rfl <;> assumption
  unfold putS
  refine Gn.name ⟨?_, fun d hd => ?_⟩ (by rw [List.length_append, List.length_append, List.length_take, List.length_drop, List.length_singleton]; omega)
  · cases p with
    | zero => exact ⟨c, _, rfl, hcl⟩
    | succ p =>
      obtain ⟨⟨c1, t1, e1, h1⟩, _⟩ := hg
      rw [e1]
      exact ⟨c1, _, rfl, h1⟩
  · rcases List.mem_append.mp hd with hd | hd
    · rcases List.mem_append.mp hd with hd | hd
      · exact hg.2 d (List.mem_of_mem_take hd)
      · rw [List.mem_singleton] at hd; rw [hd]; exact let_aln hcl
    · exact hg.2 d (List.mem_of_mem_drop hd)
def lowS (k : Nat) : Nat := 97 + k
def highS (k : Nat) : Nat := 102 + k
/-- the law's users: us, the first five all different -/
theorem law_users_ok {G : Gh} {R : Nat} {row : List Int} (hR : G.ob R = .lst (row.map D.int)) (hRn : R < G.n) (hr : row.length = 14) : ∃ l : List (List Nat), l.length = 6 ∧ l.Nodup ∧ (∀ z ∈ l, nameB z = true) ∧ m_law_users [.ref R] G = .ok (.ref G.n) (G.push (.lst (l.map fun z => .str (nmS z)))) := by
  have key : (m_law_users [.ref R] G).sat (fun d G' => ∃ l : List (List Nat), l.length = 6 ∧ l.Nodup ∧ (∀ z ∈ l, nameB z = true) ∧ d = .ref G.n ∧ G' = G.push (.lst (l.map fun z => .str (nmS z)))) nE := by
    unfold m_law_users b_law_users
    rw [w_fun]
    refine ⟨rfl, ?_⟩
    have r0 := row_ix hR 0 (by omega)
    have r1 := row_ix hR 1 (by omega)
    obtain ⟨l0, hn0, _, e0⟩ := name_eq (rv row 0) (2 + rv row 1 % 11) (by omega) G
    obtain ⟨_, hl1, hl2⟩ := nameB_gn hn0
    have hne : l0 ≠ [] := fun e => by rw [e] at hl1; simp at hl1
    rw [q_law_users_1, w_seq]; simp only [w_ok, w_c, w_v, w_op, w_un, w_b, w_nil, w_cons, w_call, w_tup, w_lst, w_dct0, w_fld, w_meth, w_make, w_mt, w_get2, w_tru, w_asB, w_not, w_and, w_or, w_chain, w_andV, w_orV, w_notV, w_if, w_isi, w_pNone, w_pSome, w_sl, w_nx, w_brk, w_cnt, w_drop, w_ret, w_retN, w_sif, w_raise, gmN, gmT, gmAll, w_asg, w_sfld, w_ssub, w_saug, w_for, w_iseq, w_irng1, w_irng2, slotQ_some, opQ_some, opD_some, getQ_some, opB_some, blQ_bl, tyQ_some, inQ_int, evQ_some, ghQ_some, List.getElem?_cons_zero, List.getElem?_cons_succ, List.set_cons_zero, List.set_cons_succ, List.map_cons, List.map_nil, List.cons_append, List.nil_append, List.replicate, List.length_cons, List.length_nil, o_add, o_sub, o_lt, o_le, o_gt, o_ge, o_les, o_eq, o_ne, o_eqs, o_nes, o_eqb, o_neb, o_is, o_isNot, o_iadd, o_neg, b_int, b_min, b_max, r0, r1, o_mod (show (0 : Int) < 11 by decide), e0]
    rw [q_law_users_2, w_seq]; simp only [w_ok, w_c, w_v, w_op, w_un, w_b, w_nil, w_cons, w_call, w_tup, w_lst, w_dct0, w_fld, w_meth, w_make, w_mt, w_get2, w_tru, w_asB, w_not, w_and, w_or, w_chain, w_andV, w_orV, w_notV, w_if, w_isi, w_pNone, w_pSome, w_sl, w_nx, w_brk, w_cnt, w_drop, w_ret, w_retN, w_sif, w_raise, gmN, gmT, gmAll, w_asg, w_sfld, w_ssub, w_saug, w_for, w_iseq, w_irng1, w_irng2, slotQ_some, opQ_some, opD_some, getQ_some, opB_some, blQ_bl, tyQ_some, inQ_int, evQ_some, ghQ_some, List.getElem?_cons_zero, List.getElem?_cons_succ, List.set_cons_zero, List.set_cons_succ, List.map_cons, List.map_nil, List.cons_append, List.nil_append, List.replicate, List.length_cons, List.length_nil, o_add, o_sub, o_lt, o_le, o_gt, o_ge, o_les, o_eq, o_ne, o_eqs, o_nes, o_eqb, o_neb, o_is, o_isNot, o_iadd, o_neg, b_int, b_min, b_max]
    refine ⟨by decide, ?_⟩
    rw [q_law_users_3, w_seq, w_for, w_irng1]
    simp only [w_cons, w_c, w_nil]
    show imQ (rngI 0 5) _
    refine rng_sat ⟨by omega⟩ (fun k e G' => ∃ (ls : List (List Nat)) (y3 : Option D), e = [some (.ref R), some (.str (nmS l0)), some (.ref G.n), y3] ∧ G' = G.push (.lst ((l0 :: ls).map fun z => .str (nmS z))) ∧ ls.length = k ∧ (l0 :: ls).Nodup ∧ ∀ z ∈ ls, ∃ j, j < k ∧ Alike l0 z (lowS j) (highS j)) ⟨[], none, rfl, rfl, rfl, by simp, fun z hz => by cases hz⟩ ?_ ?_
    · rintro k e G' hk ⟨ls, y3, rfl, rfl, hls, hnd, hal⟩
      have hk : k < 5 := hk
      have ho : (G.push (.lst ((l0 :: ls).map fun z => D.str (nmS z)))).ob G.n = .lst ((l0 :: ls).map fun z => .str (nmS z)) := ob_push_same _ _
      have rk := row_ix (push_ob hR hRn (.lst ((l0 :: ls).map fun z => D.str (nmS z)))) (2 + (0 + (k : Int))) (by omega)
      have ia : opIx (.str "abcde") (.int (0 + (k : Int))) (G.push (.lst ((l0 :: ls).map fun z => D.str (nmS z)))) = some (.str (nmS [lowS k]), G.push (.lst ((l0 :: ls).map fun z => D.str (nmS z)))) := by
        have : k = 0 ∨ k = 1 ∨ k = 2 ∨ k = 3 ∨ k = 4 := by omega
        rcases this with rfl | rfl | rfl | rfl | rfl <;> rfl
      have ib : opIx (.str "fghij") (.int (0 + (k : Int))) (G.push (.lst ((l0 :: ls).map fun z => D.str (nmS z)))) = some (.str (nmS [highS k]), G.push (.lst ((l0 :: ls).map fun z => D.str (nmS z)))) := by
        have : k = 0 ∨ k = 1 ∨ k = 2 ∨ k = 3 ∨ k = 4 := by omega
        rcases this with rfl | rfl | rfl | rfl | rfl <;> rfl
      obtain ⟨p, c, hp, hc, hcn, eo⟩ := other_gen l0 (rv row (2 + (0 + (k : Int)))) (lowS k) (highS k) (G.push (.lst ((l0 :: ls).map fun z => D.str (nmS z)))) hne (by omega) (by unfold lowS highS; omega)
      generalize hG2 : G.push (.lst ((l0 :: ls).map fun z => D.str (nmS z))) = G2 at ho rk ia ib eo ⊢
      have al : Alike l0 (putS l0 p c) (lowS k) (highS k) := ⟨p, c, hp, hc, hcn, rfl⟩
      simp only [gmN, evQ_some, List.set_cons_succ, List.set_cons_zero]
      simp only [w_ok, w_c, w_v, w_op, w_un, w_b, w_nil, w_cons, w_call, w_tup, w_lst, w_dct0, w_fld, w_meth, w_make, w_mt, w_get2, w_tru, w_asB, w_not, w_and, w_or, w_chain, w_andV, w_orV, w_notV, w_if, w_isi, w_pNone, w_pSome, w_sl, w_nx, w_brk, w_cnt, w_drop, w_ret, w_retN, w_sif, w_raise, gmN, gmT, gmAll, w_asg, w_sfld, w_ssub, w_saug, w_for, w_iseq, w_irng1, w_irng2, slotQ_some, opQ_some, opD_some, getQ_some, opB_some, blQ_bl, tyQ_some, inQ_int, evQ_some, ghQ_some, List.getElem?_cons_zero, List.getElem?_cons_succ, List.set_cons_zero, List.set_cons_succ, List.map_cons, List.map_nil, List.cons_append, List.nil_append, List.replicate, List.length_cons, List.length_nil, o_add, o_sub, o_lt, o_le, o_gt, o_ge, o_les, o_eq, o_ne, o_eqs, o_nes, o_eqb, o_neb, o_is, o_isNot, o_iadd, o_neg, b_int, b_min, b_max, isLst_of ho, true_and, rk, ia, ib, eo]
      rw [m_append ho (sz2 (by rw [List.length_map, List.length_cons]; omega)), opQ_some]
      refine ⟨ls ++ [putS l0 p c], _, rfl, ?_, by rw [List.length_append, hls]; rfl, ?_, fun z hz => ?_⟩
      · rw [← hG2, push_set, List.map_append]; rfl
      · rw [← List.cons_append, List.nodup_append]
        refine ⟨hnd, by simp, fun a ha b hb => ?_⟩
        rw [List.mem_singleton] at hb
        subst hb
        rcases List.mem_cons.mp ha with rfl | ha
        · exact al.ne0
        · obtain ⟨j, hj, aj⟩ := hal a ha
          exact aj.ne al (by unfold lowS highS; omega)
      · rcases List.mem_append.mp hz with hz | hz
        · obtain ⟨j, hj, aj⟩ := hal z hz
          exact ⟨j, by omega, aj⟩
        · rw [List.mem_singleton.mp hz]; exact ⟨k, by omega, al⟩
    · rintro e G' ⟨ls, y3, rfl, rfl, hls, hnd, hal⟩
      have hls : ls.length = 5 := hls
      simp only [w_ok, w_c, w_v, w_op, w_un, w_b, w_nil, w_cons, w_call, w_tup, w_lst, w_dct0, w_fld, w_meth, w_make, w_mt, w_get2, w_tru, w_asB, w_not, w_and, w_or, w_chain, w_andV, w_orV, w_notV, w_if, w_isi, w_pNone, w_pSome, w_sl, w_nx, w_brk, w_cnt, w_drop, w_ret, w_retN, w_sif, w_raise, gmN, gmT, gmAll, w_asg, w_sfld, w_ssub, w_saug, w_for, w_iseq, w_irng1, w_irng2, slotQ_some, opQ_some, opD_some, getQ_some, opB_some, blQ_bl, tyQ_some, inQ_int, evQ_some, ghQ_some, List.getElem?_cons_zero, List.getElem?_cons_succ, List.set_cons_zero, List.set_cons_succ, List.map_cons, List.map_nil, List.cons_append, List.nil_append, List.replicate, List.length_cons, List.length_nil, o_add, o_sub, o_lt, o_le, o_gt, o_ge, o_les, o_eq, o_ne, o_eqs, o_nes, o_eqb, o_neb, o_is, o_isNot, o_iadd, o_neg, b_int, b_min, b_max]
      refine ⟨l0 :: ls, by rw [List.length_cons, hls], hnd, fun z hz => ?_, (by first | rfl | trivial), (by first | rfl | trivial)⟩
      rcases List.mem_cons.mp hz with rfl | hz
      · exact hn0
      · obtain ⟨j, hj, aj⟩ := hal z hz
        have hj : j < 5 := hj
        refine aj.name hn0 ?_ ?_
        · have : j = 0 ∨ j = 1 ∨ j = 2 ∨ j = 3 ∨ j = 4 := by omega
          rcases this with rfl | rfl | rfl | rfl | rfl <;> decide +kernel
        · have : j = 0 ∨ j = 1 ∨ j = 2 ∨ j = 3 ∨ j = 4 := by omega
          rcases this with rfl | rfl | rfl | rfl | rfl <;> decide +kernel
  obtain ⟨d, G', e, l, h1, h2, h3, rfl, rfl⟩ := Rs.ok_of key
  exact ⟨l, h1, h2, h3, e⟩
end Lw
namespace Lw
open PySem PySem.Spec PyProof.Rows L2 Mi
/-! k50: the world of the law -/
structure Oz where
  x : Odr
  gs : List Str
  id : Nat
  ll : Nat
  lg : Nat
def lawL (z : Oz) : List D := [.str z.x.mr, .str z.x.kd, .int z.x.am, .str z.x.ky, .int z.x.un, .int z.x.rq, z.x.ro, .ref z.lg, .str z.x.st]
def keyK (n : Nat) : Str := ("key " : Str) ++ (toString (n : Int) : Str)
theorem keyK_ok : ∀ n : Fin 64, (1 ≤ (keyK n.val).length ∧ (keyK n.val).length ≤ 20) ∧ ∀ m : Fin 64, keyK n.val = keyK m.val → n = m := by decide +kernel
theorem keyK_add : ∀ n : Fin 64, ("key " : Str).length + (toString ((n.val : Nat) : Int) : Str).length ≤ 1000 ∧ ((n.val : Nat) : Int).natAbs.log2 < 1920 := by decide +kernel
def Gd (N : Nat) (z : Oz) : Prop := (z.x.ro = .non ∨ ∃ s, z.x.ro = .str s) ∧ (z.x.st = "waiting" → ∃ s, z.x.ro = .str s ∧ roleB s = true) ∧ z.gs.length ≤ N
def ObZ (G : Gh) (z : Oz) : Prop := G.ob z.id = .ins 8 (ordF z.x (z.id + 1)) ∧ G.ob (z.id + 1) = .lst (z.gs.map D.str) ∧ G.ob z.ll = .lst (lawL z) ∧ G.ob z.lg = .lst (z.gs.map D.str)
def LtZ (B : Nat) (G : Gh) (z : Oz) : Prop := B ≤ z.id ∧ z.id + 1 < G.n ∧ B ≤ z.ll ∧ z.ll < G.n ∧ B ≤ z.lg ∧ z.lg < G.n
def DisZ (a b : Oz) : Prop := a.ll ≠ b.id ∧ a.ll ≠ b.id + 1 ∧ a.ll ≠ b.lg ∧ a.id ≠ b.lg ∧ a.id + 1 ≠ b.lg ∧ a.id ≠ b.id + 1
structure Wz (B : Nat) (G : Gh) (U o rl du : Nat) (us : List Str) (kro : List (Key × D)) (r : Int × Str) (kn : List (Key × D)) (os : List Oz) (N : Nat) : Prop where
  hU : G.ob U = .lst (us.map D.str)
  ho : G.ob o = .ins 9 (ordsF o)
  hro : G.ob (o + 1) = .dct kro
  hrl : G.ob rl = .dct kro
  hru : G.ob (o + 2) = .dct [(.inr "pay", .tup (([(0, r.1, r.2)] : List Rw).map rowD))]
  hr : 0 ≤ r.1 ∧ r.1 ≤ 5 ∧ roleB r.2 = true
  hpl : G.ob (o + 3) = .lst (os.map fun z => .ref z.id)
  hnb : G.ob (o + 4) = .dct kn
  hdu : G.ob du = .lst (os.map fun z => .ref z.ll)
  lt : U < o ∧ o + 4 < rl ∧ rl < du ∧ du < B ∧ B ≤ G.n
  hos : ∀ z ∈ os, ObZ G z
  hlt : ∀ z ∈ os, LtZ B G z
  hgd : ∀ z ∈ os, Gd N z
  kr : ∀ (x : Str) (v : D), valD kro (.inr x) = some v → ∃ s, v = .str s ∧ roleB s = true
  dis : ∀ a ∈ os, ∀ b ∈ os, DisZ a b
  nid : (os.map fun z => z.id).Nodup
  nll : (os.map fun z => z.ll).Nodup
  keys : ∀ m, os.length ≤ m → m < 64 → valD kn (.inr (keyK m)) = none
  len : os.length ≤ N ∧ kn.length ≤ N
theorem Gd.le {N M : Nat} {z : Oz} (h : Gd N z) (hm : N ≤ M) : Gd M z := ⟨h.1, h.2.1, Nat.le_trans h.2.2 hm⟩
section
variable {B : Nat} {G G' : Gh} {U o rl du : Nat} {us : List Str} {kro kn : List (Key × D)} {r : Int × Str} {os : List Oz} {N : Nat}
theorem ObZ.fr {z : Oz} (h : ObZ G z) (l : LtZ B G z) (f : Fr G G') : ObZ G' z := by
  obtain ⟨h1, h2, h3, h4⟩ := h
  obtain ⟨a1, a2, a3, a4, a5, a6⟩ := l
  exact ⟨(f.2 _ (by omega)).trans h1, (f.2 _ (by omega)).trans h2, (f.2 _ (by omega)).trans h3, (f.2 _ (by omega)).trans h4⟩
theorem LtZ.le {z : Oz} (l : LtZ B G z) (f : G.n ≤ G'.n) : LtZ B G' z := by
  obtain ⟨a1, a2, a3, a4, a5, a6⟩ := l
  exact ⟨a1, by omega, a3, by omega, a5, by omega⟩
theorem Wz.fr (W : Wz B G U o rl du us kro r kn os N) (f : Fr G G') : Wz B G' U o rl du us kro r kn os N := by
  obtain ⟨l1, l2, l3, l4, l5⟩ := W.lt
  have f1 := f.1
  exact ⟨(f.2 _ (by omega)).trans W.hU, (f.2 _ (by omega)).trans W.ho, (f.2 _ (by omega)).trans W.hro, (f.2 _ (by omega)).trans W.hrl, (f.2 _ (by omega)).trans W.hru, W.hr, (f.2 _ (by omega)).trans W.hpl, (f.2 _ (by omega)).trans W.hnb, (f.2 _ (by omega)).trans W.hdu, ⟨l1, l2, l3, l4, by omega⟩,
    fun z hz => (W.hos z hz).fr (W.hlt z hz) f, fun z hz => (W.hlt z hz).le f1, W.hgd, W.kr, W.dis, W.nid, W.nll, W.keys, W.len⟩
theorem Wz.le (W : Wz B G U o rl du us kro r kn os N) : Wz B G U o rl du us kro r kn os (N + 1) := by
  obtain ⟨p1, p2⟩ := W.len
  exact { W with hgd := fun z hz => (W.hgd z hz).le (Nat.le_succ _), len := ⟨by omega, by omega⟩ }
/-- another rule -/
theorem Wz.rule (W : Wz B G U o rl du us kro r kn os N) (f : FrX [o + 2] G G') (r' : Int × Str) (hr : 0 ≤ r'.1 ∧ r'.1 ≤ 5 ∧ roleB r'.2 = true) (h : G'.ob (o + 2) = .dct [(.inr "pay", .tup (([(0, r'.1, r'.2)] : List Rw).map rowD))]) : Wz B G' U o rl du us kro r' kn os N := by
  obtain ⟨l1, l2, l3, l4, l5⟩ := W.lt
  have f1 := f.1
  have fk : ∀ j, j < G.n → j ≠ o + 2 → G'.ob j = G.ob j := fun j hj n1 => f.2 j hj (by simp [n1])
  refine ⟨(fk _ (by omega) (by omega)).trans W.hU, (fk _ (by omega) (by omega)).trans W.ho, (fk _ (by omega) (by omega)).trans W.hro, (fk _ (by omega) (by omega)).trans W.hrl, h, hr, (fk _ (by omega) (by omega)).trans W.hpl, (fk _ (by omega) (by omega)).trans W.hnb, (fk _ (by omega) (by omega)).trans W.hdu, ⟨l1, l2, l3, l4, by omega⟩,
    fun z hz => ?_, fun z hz => (W.hlt z hz).le f1, W.hgd, W.kr, W.dis, W.nid, W.nll, W.keys, W.len⟩
  obtain ⟨h1, h2, h3, h4⟩ := W.hos z hz
  obtain ⟨a1, a2, a3, a4, a5, a6⟩ := W.hlt z hz
  exact ⟨(fk _ (by omega) (by omega)).trans h1, (fk _ (by omega) (by omega)).trans h2, (fk _ (by omega) (by omega)).trans h3, (fk _ (by omega) (by omega)).trans h4⟩
/-- an order more -/
theorem Wz.order (W : Wz B G U o rl du us kro r kn os N) (f : FrX [o + 3, o + 4, du] G G') (z : Oz) (hlen : os.length < 64) (h1 : G'.ob (o + 3) = .lst ((os ++ [z]).map fun z => .ref z.id)) (h2 : G'.ob (o + 4) = .dct (putD kn (.inr (keyK os.length)) (.int ((os.length : Int) + 1)))) (h3 : G'.ob du = .lst ((os ++ [z]).map fun z => .ref z.ll))
    (hz : ObZ G' z) (hl : G.n ≤ z.id ∧ z.id + 1 < G'.n ∧ G.n ≤ z.ll ∧ z.ll < G'.n ∧ G.n ≤ z.lg ∧ z.lg < G'.n) (hg : Gd N z) (hd : DisZ z z) :
    Wz B G' U o rl du us kro r (putD kn (.inr (keyK os.length)) (.int ((os.length : Int) + 1))) (os ++ [z]) (N + 1) := by
  obtain ⟨l1, l2, l3, l4, l5⟩ := W.lt
  have f1 := f.1
  obtain ⟨z1, z2, z3, z4, z5, z6⟩ := hl
  have fk : ∀ j, j < G.n → j ≠ o + 3 → j ≠ o + 4 → j ≠ du → G'.ob j = G.ob j := fun j hj n1 n2 n3 => f.2 j hj (by simp [n1, n2, n3])
  refine ⟨(fk _ (by omega) (by omega) (by omega) (by omega)).trans W.hU, (fk _ (by omega) (by omega) (by omega) (by omega)).trans W.ho, (fk _ (by omega) (by omega) (by omega) (by omega)).trans W.hro, (fk _ (by omega) (by omega) (by omega) (by omega)).trans W.hrl, (fk _ (by omega) (by omega) (by omega) (by omega)).trans W.hru, W.hr, h1, h2, h3, ⟨l1, l2, l3, l4, by omega⟩,
    fun y hy => ?_, fun y hy => ?_, fun y hy => ?_, W.kr, fun a ha b hb => ?_, ?_, ?_, fun m hm hm2 => ?_, ?_⟩
  · rcases List.mem_append.mp hy with hy | hy
    · obtain ⟨h1, h2, h3, h4⟩ := W.hos y hy
      obtain ⟨a1, a2, a3, a4, a5, a6⟩ := W.hlt y hy
      exact ⟨(fk _ (by omega) (by omega) (by omega) (by omega)).trans h1, (fk _ (by omega) (by omega) (by omega) (by omega)).trans h2, (fk _ (by omega) (by omega) (by omega) (by omega)).trans h3, (fk _ (by omega) (by omega) (by omega) (by omega)).trans h4⟩
    · rw [List.mem_singleton.mp hy]; exact hz
  · rcases List.mem_append.mp hy with hy | hy
    · exact (W.hlt y hy).le f1
    · rw [List.mem_singleton.mp hy]; exact ⟨by omega, z2, by omega, z4, by omega, z6⟩
  · rcases List.mem_append.mp hy with hy | hy
    · exact (W.hgd y hy).le (Nat.le_succ _)
    · rw [List.mem_singleton.mp hy]; exact hg.le (Nat.le_succ _)
  · rcases List.mem_append.mp ha with ha | ha <;> rcases List.mem_append.mp hb with hb | hb
    · exact W.dis a ha b hb
    · rw [List.mem_singleton.mp hb]
      obtain ⟨a1, a2, a3, a4, a5, a6⟩ := W.hlt a ha
      refine ⟨?_, ?_, ?_, ?_, ?_, ?_⟩ <;> omega
    · rw [List.mem_singleton.mp ha]
      obtain ⟨a1, a2, a3, a4, a5, a6⟩ := W.hlt b hb
      refine ⟨?_, ?_, ?_, ?_, ?_, ?_⟩ <;> omega
    · rw [List.mem_singleton.mp ha, List.mem_singleton.mp hb]; exact hd
  · rw [List.map_append, List.nodup_append]
    refine ⟨W.nid, by simp, fun a ha b hb => ?_⟩
    obtain ⟨y, hy, rfl⟩ := List.mem_map.mp ha
    have := W.hlt y hy
    have hb : b = z.id := by simpa using hb
    unfold LtZ at this
    omega
  · rw [List.map_append, List.nodup_append]
    refine ⟨W.nll, by simp, fun a ha b hb => ?_⟩
    obtain ⟨y, hy, rfl⟩ := List.mem_map.mp ha
    have := W.hlt y hy
    have hb : b = z.ll := by simpa using hb
    unfold LtZ at this
    omega
  · rw [List.length_append, List.length_singleton] at hm
    rw [valD_put, if_neg, W.keys m (by omega) hm2]
    intro e
    have := (keyK_ok ⟨os.length, hlen⟩).2 ⟨m, hm2⟩ (Sum.inr.inj e)
    have := Fin.mk.inj this
    omega
  · obtain ⟨p1, p2⟩ := W.len
    have q1 := put_len (Sum.inr (keyK os.length) : Key) (.int ((os.length : Int) + 1)) kn
    rw [List.length_append, List.length_singleton]
    omega
/-- orders change -/
theorem Wz.upd (W : Wz B G U o rl du us kro r kn os N) (os' : List Oz) (e1 : os'.map (fun z => z.id) = os.map fun z => z.id) (e2 : os'.map (fun z => z.ll) = os.map fun z => z.ll) (hn : G.n ≤ G'.n) (f : ∀ j, j < B → G'.ob j = G.ob j) (hos : ∀ z ∈ os', ObZ G' z)
    (hlg : ∀ z ∈ os', (∃ a ∈ os, z.lg = a.lg) ∨ (G.n ≤ z.lg ∧ z.lg < G'.n)) (hgd : ∀ z ∈ os', Gd (N + 1) z) : Wz B G' U o rl du us kro r kn os' (N + 1) := by
  obtain ⟨l1, l2, l3, l4, l5⟩ := W.lt
  have hl : os'.length = os.length := by
    have := congrArg List.length e1
    rwa [List.length_map, List.length_map] at this
  have i1 : ∀ z ∈ os', ∃ a ∈ os, z.id = a.id := fun z hz => by
    have : z.id ∈ os.map fun z => z.id := e1 ▸ List.mem_map.mpr ⟨z, hz, rfl⟩
    obtain ⟨a, ha, e⟩ := List.mem_map.mp this
    exact ⟨a, ha, e.symm⟩
  have i2 : ∀ z ∈ os', ∃ a ∈ os, z.ll = a.ll := fun z hz => by
    have : z.ll ∈ os.map fun z => z.ll := e2 ▸ List.mem_map.mpr ⟨z, hz, rfl⟩
    obtain ⟨a, ha, e⟩ := List.mem_map.mp this
    exact ⟨a, ha, e.symm⟩
  have m1 : (os'.map fun z => D.ref z.id) = os.map fun z => D.ref z.id := by
    have := congrArg (List.map D.ref) e1
    rwa [List.map_map, List.map_map] at this
  have m2 : (os'.map fun z => D.ref z.ll) = os.map fun z => D.ref z.ll := by
    have := congrArg (List.map D.ref) e2
    rwa [List.map_map, List.map_map] at this
  refine ⟨(f _ (by omega)).trans W.hU, (f _ (by omega)).trans W.ho, (f _ (by omega)).trans W.hro, (f _ (by omega)).trans W.hrl, (f _ (by omega)).trans W.hru, W.hr, (f _ (by omega)).trans (by rw [m1]; exact W.hpl), (f _ (by omega)).trans W.hnb, (f _ (by omega)).trans (by rw [m2]; exact W.hdu), ⟨l1, l2, l3, l4, by omega⟩,
    hos, fun z hz => ?_, hgd, W.kr, fun a ha b hb => ?_, e1 ▸ W.nid, e2 ▸ W.nll, fun m hm hm2 => W.keys m (by omega) hm2, ?_⟩
  · obtain ⟨a, ha, ea⟩ := i1 z hz
    obtain ⟨b, hb, eb⟩ := i2 z hz
    obtain ⟨a1, a2, _, _, _, _⟩ := W.hlt a ha
    obtain ⟨_, _, b3, b4, _, _⟩ := W.hlt b hb
    rcases hlg z hz with ⟨c, hc, ec⟩ | ⟨c1, c2⟩
    · obtain ⟨_, _, _, _, c5, c6⟩ := W.hlt c hc
      refine ⟨?_, ?_, ?_, ?_, ?_, ?_⟩ <;> omega
    · refine ⟨?_, ?_, ?_, ?_, ?_, ?_⟩ <;> omega
  · obtain ⟨a1, ha1, ea1⟩ := i1 a ha
    obtain ⟨a2, ha2, ea2⟩ := i2 a ha
    obtain ⟨b1, hb1, eb1⟩ := i1 b hb
    have d1 := W.dis a2 ha2 b1 hb1
    have d2 := W.dis a1 ha1 b1 hb1
    have t1 := W.hlt a1 ha1
    have t2 := W.hlt a2 ha2
    unfold DisZ at d1 d2 ⊢
    unfold LtZ at t1 t2
    rcases hlg b hb with ⟨c, hc, ec⟩ | ⟨c1, c2⟩
    · have d3 := W.dis a2 ha2 c hc
      have d4 := W.dis a1 ha1 c hc
      unfold DisZ at d3 d4
      refine ⟨?_, ?_, ?_, ?_, ?_, ?_⟩ <;> omega
    · refine ⟨?_, ?_, ?_, ?_, ?_, ?_⟩ <;> omega
  · obtain ⟨p1, p2⟩ := W.len
    omega
theorem nodup_at {α β : Type} {f : α → β} {l : List α} (h : (l.map f).Nodup) {i j : Nat} {a b : α} (ha : l[i]? = some a) (hb : l[j]? = some b) (e : f a = f b) : i = j := by
  have h1 : (l.map f)[i]? = some (f a) := by rw [List.getElem?_map, ha]; rfl
  have h2 : (l.map f)[j]? = some (f b) := by rw [List.getElem?_map, hb]; rfl
  rw [e] at h1
  have hi := (List.getElem?_eq_some_iff.mp h1).1
  exact (List.getElem?_inj hi h).mp (h1.trans h2.symm)
theorem map_set_same {α β : Type} {f : α → β} {l : List α} {i : Nat} {a b : α} (ha : l[i]? = some a) (e : f b = f a) : (l.set i b).map f = l.map f := by
  rw [List.map_set]
  refine List.ext_getElem? fun j => ?_
  rw [List.getElem?_set]
  split
  · rename_i h
    subst h
    rw [List.getElem?_map, ha]
    split
    · rw [e]; rfl
    · rename_i h2
      rw [List.length_map] at h2
      exact absurd (List.getElem?_eq_some_iff.mp ha).1 h2
  · rfl
/-- one order changes -/
theorem Wz.upd1 (W : Wz B G U o rl du us kro r kn os N) {i : Nat} {z z' : Oz} (hi : os[i]? = some z) (e1 : z'.id = z.id) (e2 : z'.ll = z.ll) (f : FrX [z.id, z.id + 1, z.ll] G G') (h : ObZ G' z') (hlg : z'.lg = z.lg ∨ (G.n ≤ z'.lg ∧ z'.lg < G'.n)) (hg : Gd (N + 1) z') :
    Wz B G' U o rl du us kro r kn (os.set i z') (N + 1) := by
  have hm := List.mem_of_getElem? hi
  have t := W.hlt z hm
  have split' : ∀ y ∈ os.set i z', y = z' ∨ ∃ j, j ≠ i ∧ os[j]? = some y := fun y hy => by
    obtain ⟨j, hj⟩ := List.mem_iff_getElem?.mp hy
    rw [List.getElem?_set] at hj
    split at hj
    · split at hj
      · exact .inl (Option.some.inj hj).symm
      · cases hj
    · rename_i h2
      exact .inr ⟨j, fun e => h2 e.symm, hj⟩
  refine W.upd (os.set i z') (map_set_same hi e1) (map_set_same hi e2) f.1 (fun j hj => ?_) (fun y hy => ?_) (fun y hy => ?_) (fun y hy => ?_)
  · have := W.lt
    unfold LtZ at t
    refine f.2 j (by omega) ?_
    simp only [List.mem_cons, List.not_mem_nil, or_false, not_or]
    omega
  · rcases split' y hy with rfl | ⟨j, hj, hy⟩
    · exact h
    · have hym := List.mem_of_getElem? hy
      obtain ⟨h1, h2, h3, h4⟩ := W.hos y hym
      have ty := W.hlt y hym
      have d1 := W.dis y hym z hm
      have d2 := W.dis z hm y hym
      have n1 : y.id ≠ z.id := fun e => hj (nodup_at W.nid hy hi e)
      have n2 : y.ll ≠ z.ll := fun e => hj (nodup_at W.nll hy hi e)
      unfold DisZ at d1 d2
      unfold LtZ at ty
      have fk : ∀ k, k < G.n → k ≠ z.id → k ≠ z.id + 1 → k ≠ z.ll → G'.ob k = G.ob k := fun k hk a b c => f.2 k hk (by simp [a, b, c])
      exact ⟨(fk _ (by omega) (by omega) (by omega) (by omega)).trans h1, (fk _ (by omega) (by omega) (by omega) (by omega)).trans h2, (fk _ (by omega) (by omega) (by omega) (by omega)).trans h3, (fk _ (by omega) (by omega) (by omega) (by omega)).trans h4⟩
  · rcases split' y hy with rfl | ⟨j, hj, hy⟩
    · exact hlg.imp (fun e => ⟨z, hm, e⟩) fun e => e
    · exact .inl ⟨y, List.mem_of_getElem? hy, rfl⟩
  · rcases split' y hy with rfl | ⟨j, hj, hy⟩
    · exact hg
    · exact (W.hgd y (List.mem_of_getElem? hy)).le (Nat.le_succ _)
end
end Lw
namespace Lw
open PySem PySem.Spec PyProof.Rows L2 Mi
/-! k50: what the program does to an order -/
theorem sd_grant_grant : decide (("grant" : Str) = "grant") = true := by decide +kernel
theorem sd_grant_reject : decide (("grant" : Str) = "reject") = false := by decide +kernel
theorem sd_grant_withdraw : decide (("grant" : Str) = "withdraw") = false := by decide +kernel
theorem sd_grant_complete : decide (("grant" : Str) = "complete") = false := by decide +kernel
theorem sd_grant_fail : decide (("grant" : Str) = "fail") = false := by decide +kernel
theorem sd_grant_expire : decide (("grant" : Str) = "expire") = false := by decide +kernel
theorem sd_reject_grant : decide (("reject" : Str) = "grant") = false := by decide +kernel
theorem sd_reject_reject : decide (("reject" : Str) = "reject") = true := by decide +kernel
theorem sd_reject_withdraw : decide (("reject" : Str) = "withdraw") = false := by decide +kernel
theorem sd_reject_complete : decide (("reject" : Str) = "complete") = false := by decide +kernel
theorem sd_reject_fail : decide (("reject" : Str) = "fail") = false := by decide +kernel
theorem sd_reject_expire : decide (("reject" : Str) = "expire") = false := by decide +kernel
theorem sd_withdraw_grant : decide (("withdraw" : Str) = "grant") = false := by decide +kernel
theorem sd_withdraw_reject : decide (("withdraw" : Str) = "reject") = false := by decide +kernel
theorem sd_withdraw_withdraw : decide (("withdraw" : Str) = "withdraw") = true := by decide +kernel
theorem sd_withdraw_complete : decide (("withdraw" : Str) = "complete") = false := by decide +kernel
theorem sd_withdraw_fail : decide (("withdraw" : Str) = "fail") = false := by decide +kernel
theorem sd_withdraw_expire : decide (("withdraw" : Str) = "expire") = false := by decide +kernel
theorem sd_complete_grant : decide (("complete" : Str) = "grant") = false := by decide +kernel
theorem sd_complete_reject : decide (("complete" : Str) = "reject") = false := by decide +kernel
theorem sd_complete_withdraw : decide (("complete" : Str) = "withdraw") = false := by decide +kernel
theorem sd_complete_complete : decide (("complete" : Str) = "complete") = true := by decide +kernel
theorem sd_complete_fail : decide (("complete" : Str) = "fail") = false := by decide +kernel
theorem sd_complete_expire : decide (("complete" : Str) = "expire") = false := by decide +kernel
theorem sd_fail_grant : decide (("fail" : Str) = "grant") = false := by decide +kernel
theorem sd_fail_reject : decide (("fail" : Str) = "reject") = false := by decide +kernel
theorem sd_fail_withdraw : decide (("fail" : Str) = "withdraw") = false := by decide +kernel
theorem sd_fail_complete : decide (("fail" : Str) = "complete") = false := by decide +kernel
theorem sd_fail_fail : decide (("fail" : Str) = "fail") = true := by decide +kernel
theorem sd_fail_expire : decide (("fail" : Str) = "expire") = false := by decide +kernel
theorem sd_expire_grant : decide (("expire" : Str) = "grant") = false := by decide +kernel
theorem sd_expire_reject : decide (("expire" : Str) = "reject") = false := by decide +kernel
theorem sd_expire_withdraw : decide (("expire" : Str) = "withdraw") = false := by decide +kernel
theorem sd_expire_complete : decide (("expire" : Str) = "complete") = false := by decide +kernel
theorem sd_expire_fail : decide (("expire" : Str) = "fail") = false := by decide +kernel
theorem sd_expire_expire : decide (("expire" : Str) = "expire") = true := by decide +kernel

def rkN (s : Str) : Nat := ((["teller", "officer", "chief"] : List Str).findIdx? fun y => decide (y = s)).getD 0
theorem rk_some {s : Str} (h : roleB s = true) : ((["teller", "officer", "chief"] : List Str).findIdx? fun y => decide (y = s)) = some (rkN s) := by
  have h3 : s = "teller" ∨ s = "officer" ∨ s = "chief" := by
    unfold roleB at h
    have h : (("teller" : Str) == s || (("officer" : Str) == s || (("chief" : Str) == s || false))) = true := h
    simp only [Bool.or_eq_true, beq_iff_eq, Bool.false_eq_true, or_false] at h
    rcases h with h | h | h
    · exact .inl h.symm
    · exact .inr (.inl h.symm)
    · exact .inr (.inr h.symm)
  rcases h3 with rfl | rfl | rfl <;> decide +kernel
theorem ixT {s : Str} (h : roleB s = true) (G : Gh) : mIndexT c_ROLES [.str s] G = some (.int (rkN s : Int), G) := by
  show (((["teller", "officer", "chief"] : List Str).findIdx? fun y => decide (y = s)).map fun (j : Nat) => (D.int (j : Int), G)) = _
  rw [rk_some h]
  rfl
theorem ixL {s : Str} {G : Gh} {l : Nat} (hl : G.ob l = .lst [.str "teller", .str "officer", .str "chief"]) (h : roleB s = true) : mIndex (.ref l) [.str s] G = some (.int (rkN s : Int), G) := by
  unfold mIndex
  dsimp only
  rw [hl]
  show (((["teller", "officer", "chief"] : List Str).findIdx? fun y => decide (y = s)).map fun (j : Nat) => (D.int (j : Int), G)) = _
  rw [rk_some h]
  rfl
def opnB (s : Str) : Bool := [D.str "waiting", .str "ready"].any fun y => eqF y (.str s)
theorem in_open (s : Str) (G : Gh) : opIn (.str s) (.tup [.str "waiting", .str "ready"]) G = some (.bl (opnB s), G) := rfl
theorem notin_open (s : Str) (G : Gh) : opNotIn (.str s) (.tup [.str "waiting", .str "ready"]) G = some (.bl (!opnB s), G) := rfl
theorem in_strs {l : Nat} {G : Gh} {ss : List Str} (s : Str) (h : G.ob l = .lst (ss.map D.str)) : opIn (.str s) (.ref l) G = some (.bl (decide (s ∈ ss)), G) := by
  unfold opIn memD
  dsimp only
  rw [h]
  show (inD (.str s) (ss.map D.str)).map _ = _
  have h1 : (ss.map D.str).all flatD = true := by
    rw [List.all_map]; exact List.all_eq_true.mpr fun _ _ => rfl
  have h2 : ((ss.map D.str).any fun y => eqF y (.str s)) = decide (s ∈ ss) := by
    rw [List.any_map]
    rw [Bool.eq_iff_iff, List.any_eq_true, decide_eq_true_eq]
    constructor
    · rintro ⟨y, hy, e⟩
      have : y = s := beq_iff_eq.mp e
      exact this ▸ hy
    · intro hs
      exact ⟨s, hs, beq_iff_eq.mpr rfl⟩
  unfold inD
  rw [if_pos ⟨rfl, h1⟩, h2]
  rfl
section
variable {G : Gh} {o : Nat} {kro : List (Key × D)} {os : List Oz}
theorem at_ok {n : Nat} {z : Oz} (ho : G.ob o = .ins 9 (ordsF o)) (hpl : G.ob (o + 3) = .lst (os.map fun z => .ref z.id)) (hn : os[n]? = some z) : m_Orders_at_number [.ref o, .int ((n : Int) + 1)] G = .ok (.ref z.id) G := by
  have hlt : n < os.length := (List.getElem?_eq_some_iff.mp hn).1
  have hlen : lenD (.ref (o + 3)) G = some os.length := (len_lst hpl).trans (by rw [List.length_map])
  apply eq_of_sat
  unfold m_Orders_at_number b_Orders_at_number
  rw [w_fun]
  refine ⟨rfl, ?_⟩
  have d1 : decide ((1 : Int) ≤ (n : Int) + 1) = true := decide_eq_true (by omega)
  have d2 : decide ((n : Int) + 1 ≤ (os.length : Int)) = true := decide_eq_true (by omega)
  have ix : opIx (.ref (o + 3)) (.int ((n : Int) + 1 - 1)) G = some (.ref z.id, G) := ix_lst hpl (atI_int (by omega) (by rw [show ((n : Int) + 1 - 1).toNat = n by omega, List.getElem?_map, hn]; rfl))
  rw [q_Orders_at_number_1, w_seq]; simp only [w_ok, w_c, w_v, w_op, w_un, w_b, w_nil, w_cons, w_call, w_tup, w_lst, w_dct0, w_fld, w_meth, w_make, w_mt, w_get2, w_tru, w_asB, w_not, w_and, w_or, w_chain, w_andV, w_orV, w_notV, w_if, w_isi, w_pNone, w_pSome, w_sl, w_nx, w_brk, w_cnt, w_drop, w_ret, w_retN, w_sif, w_raise, gmN, gmT, gmAll, w_asg, w_sfld, w_ssub, w_saug, w_for, w_iseq, w_irng1, w_irng2, slotQ_some, opQ_some, opD_some, getQ_some, opB_some, blQ_bl, tyQ_some, inQ_int, evQ_some, ghQ_some, List.getElem?_cons_zero, List.getElem?_cons_succ, List.set_cons_zero, List.set_cons_succ, List.map_cons, List.map_nil, List.cons_append, List.nil_append, List.replicate, List.length_cons, List.length_nil, o_add, o_sub, o_lt, o_le, o_gt, o_ge, o_les, o_eq, o_ne, o_eqs, o_nes, o_eqb, o_neb, o_is, o_isNot, o_iadd, o_neg, b_int, b_min, b_max, g11 ho, b_len hlen, d1, d2, if_true, Bool.not_true, Bool.false_eq_true, if_false, ix]
  exact ⟨(by first | rfl | trivial), (by first | rfl | trivial)⟩
theorem at_er {n : Int} (ho : G.ob o = .ins 9 (ordsF o)) (hpl : G.ob (o + 3) = .lst (os.map fun z => .ref z.id)) (hn : ¬ (1 ≤ n ∧ n ≤ os.length)) : m_Orders_at_number [.ref o, .int n] G = .er 3 G := by
  have hlen : lenD (.ref (o + 3)) G = some os.length := (len_lst hpl).trans (by rw [List.length_map])
  apply eq_of_er
  unfold m_Orders_at_number b_Orders_at_number
  rw [w_fun]
  refine ⟨rfl, ?_⟩
  rw [q_Orders_at_number_1, w_seq]; simp only [w_ok, w_c, w_v, w_op, w_un, w_b, w_nil, w_cons, w_call, w_tup, w_lst, w_dct0, w_fld, w_meth, w_make, w_mt, w_get2, w_tru, w_asB, w_not, w_and, w_or, w_chain, w_andV, w_orV, w_notV, w_if, w_isi, w_pNone, w_pSome, w_sl, w_nx, w_brk, w_cnt, w_drop, w_ret, w_retN, w_sif, w_raise, gmN, gmT, gmAll, w_asg, w_sfld, w_ssub, w_saug, w_for, w_iseq, w_irng1, w_irng2, slotQ_some, opQ_some, opD_some, getQ_some, opB_some, blQ_bl, tyQ_some, inQ_int, evQ_some, ghQ_some, List.getElem?_cons_zero, List.getElem?_cons_succ, List.set_cons_zero, List.set_cons_succ, List.map_cons, List.map_nil, List.cons_append, List.nil_append, List.replicate, List.length_cons, List.length_nil, o_add, o_sub, o_lt, o_le, o_gt, o_ge, o_les, o_eq, o_ne, o_eqs, o_nes, o_eqb, o_neb, o_is, o_isNot, o_iadd, o_neg, b_int, b_min, b_max, g11 ho, b_len hlen]
  by_cases h : 1 ≤ n
  · have h2 : ¬ n ≤ (os.length : Int) := fun z => hn ⟨h, z⟩
    simp only [decide_eq_true h, decide_eq_false h2, if_true, Bool.not_false]
    exact ⟨(by first | rfl | trivial), (by first | rfl | trivial)⟩
  · simp only [decide_eq_false h, Bool.false_eq_true, if_false, Bool.not_false, if_true]
    exact ⟨(by first | rfl | trivial), (by first | rfl | trivial)⟩
theorem may_eq {by_ role s : Str} (ho : G.ob o = .ins 9 (ordsF o)) (hro : G.ob (o + 1) = .dct kro) (hb : valD kro (.inr by_) = some (.str s)) (hs : roleB s = true) (hr : roleB role = true) : m_Orders_may [.ref o, .str by_, .str role] G = .ok (.bl (decide ((rkN role : Int) ≤ (rkN s : Int)))) G := by
  apply eq_of_sat
  unfold m_Orders_may b_Orders_may
  rw [w_fun]
  refine ⟨rfl, ?_⟩
  have ix : opIx (.ref (o + 1)) (.str by_) G = some (.str s, G) := ix_dct hro rfl hb
  have nr : opNotIn (.str role) c_ROLES G = some (.bl false, G) := by
    have := notin_roles role G
    rw [hr] at this
    exact this
  rw [q_Orders_may_1, w_seq]; simp only [w_ok, w_c, w_v, w_op, w_un, w_b, w_nil, w_cons, w_call, w_tup, w_lst, w_dct0, w_fld, w_meth, w_make, w_mt, w_get2, w_tru, w_asB, w_not, w_and, w_or, w_chain, w_andV, w_orV, w_notV, w_if, w_isi, w_pNone, w_pSome, w_sl, w_nx, w_brk, w_cnt, w_drop, w_ret, w_retN, w_sif, w_raise, gmN, gmT, gmAll, w_asg, w_sfld, w_ssub, w_saug, w_for, w_iseq, w_irng1, w_irng2, slotQ_some, opQ_some, opD_some, getQ_some, opB_some, blQ_bl, tyQ_some, inQ_int, evQ_some, ghQ_some, List.getElem?_cons_zero, List.getElem?_cons_succ, List.set_cons_zero, List.set_cons_succ, List.map_cons, List.map_nil, List.cons_append, List.nil_append, List.replicate, List.length_cons, List.length_nil, o_add, o_sub, o_lt, o_le, o_gt, o_ge, o_les, o_eq, o_ne, o_eqs, o_nes, o_eqb, o_neb, o_is, o_isNot, o_iadd, o_neg, b_int, b_min, b_max, nr, Bool.false_eq_true, if_false]
  rw [q_Orders_may_2, w_seq]
  simp only [w_ok, w_c, w_v, w_op, w_un, w_b, w_nil, w_cons, w_call, w_tup, w_lst, w_dct0, w_fld, w_meth, w_make, w_mt, w_get2, w_tru, w_asB, w_not, w_and, w_or, w_chain, w_andV, w_orV, w_notV, w_if, w_isi, w_pNone, w_pSome, w_sl, w_nx, w_brk, w_cnt, w_drop, w_ret, w_retN, w_sif, w_raise, gmN, gmT, gmAll, w_asg, w_sfld, w_ssub, w_saug, w_for, w_iseq, w_irng1, w_irng2, slotQ_some, opQ_some, opD_some, getQ_some, opB_some, blQ_bl, tyQ_some, inQ_int, evQ_some, ghQ_some, List.getElem?_cons_zero, List.getElem?_cons_succ, List.set_cons_zero, List.set_cons_succ, List.map_cons, List.map_nil, List.cons_append, List.nil_append, List.replicate, List.length_cons, List.length_nil, o_add, o_sub, o_lt, o_le, o_gt, o_ge, o_les, o_eq, o_ne, o_eqs, o_nes, o_eqb, o_neb, o_is, o_isNot, o_iadd, o_neg, b_int, b_min, b_max, g9 ho, nin_dct by_ hro, hb, Option.isSome_some, Bool.not_true, Bool.false_eq_true, if_false, w_mtC, ix, ixT hs, ixT hr]
  exact ⟨(by first | rfl | trivial), (by first | rfl | trivial)⟩
/-- may not decide on it -/
def Bar (kro : List (Key × D)) (by_ : Str) (z : Oz) : Prop := by_ = z.x.mr ∨ ∃ s role, valD kro (.inr by_) = some (.str s) ∧ z.x.ro = .str role ∧ rkN s < rkN role
theorem fz {z : Oz} (h : G.ob z.id = .ins 8 (ordF z.x (z.id + 1))) (k : Nat) (d : D) (hk : na 8 k = true) (hv : valD (ordF z.x (z.id + 1)) k = some d) : fldO na k (.ref z.id) G = some d := fld_of h hk hv
theorem wf_no {by_ : Str} {n : Int} (ho : G.ob o = .ins 9 (ordsF o)) (hro : G.ob (o + 1) = .dct kro) (hb : valD kro (.inr by_) = none) : m_Orders_waiting_for [.ref o, .str by_, .int n] G = .er 6 G := by
  apply eq_of_er
  unfold m_Orders_waiting_for b_Orders_waiting_for
  rw [w_fun]
  refine ⟨rfl, ?_⟩
  rw [q_Orders_waiting_for_1, w_seq]; simp only [w_ok, w_c, w_v, w_op, w_un, w_b, w_nil, w_cons, w_call, w_tup, w_lst, w_dct0, w_fld, w_meth, w_make, w_mt, w_get2, w_tru, w_asB, w_not, w_and, w_or, w_chain, w_andV, w_orV, w_notV, w_if, w_isi, w_pNone, w_pSome, w_sl, w_nx, w_brk, w_cnt, w_drop, w_ret, w_retN, w_sif, w_raise, gmN, gmT, gmAll, w_asg, w_sfld, w_ssub, w_saug, w_for, w_iseq, w_irng1, w_irng2, slotQ_some, opQ_some, opD_some, getQ_some, opB_some, blQ_bl, tyQ_some, inQ_int, evQ_some, ghQ_some, List.getElem?_cons_zero, List.getElem?_cons_succ, List.set_cons_zero, List.set_cons_succ, List.map_cons, List.map_nil, List.cons_append, List.nil_append, List.replicate, List.length_cons, List.length_nil, o_add, o_sub, o_lt, o_le, o_gt, o_ge, o_les, o_eq, o_ne, o_eqs, o_nes, o_eqb, o_neb, o_is, o_isNot, o_iadd, o_neg, b_int, b_min, b_max, g9 ho, nin_dct by_ hro, hb, Option.isSome_none, Bool.not_false, if_true]
  exact ⟨(by first | rfl | trivial), (by first | rfl | trivial)⟩
theorem wf_miss {by_ : Str} {n : Int} {v : D} (ho : G.ob o = .ins 9 (ordsF o)) (hro : G.ob (o + 1) = .dct kro) (hpl : G.ob (o + 3) = .lst (os.map fun z => .ref z.id)) (hb : valD kro (.inr by_) = some v) (hn : ¬ (1 ≤ n ∧ n ≤ os.length)) : m_Orders_waiting_for [.ref o, .str by_, .int n] G = .er 3 G := by
  apply eq_of_er
  unfold m_Orders_waiting_for b_Orders_waiting_for
  rw [w_fun]
  refine ⟨rfl, ?_⟩
  rw [q_Orders_waiting_for_1, w_seq]; simp only [w_ok, w_c, w_v, w_op, w_un, w_b, w_nil, w_cons, w_call, w_tup, w_lst, w_dct0, w_fld, w_meth, w_make, w_mt, w_get2, w_tru, w_asB, w_not, w_and, w_or, w_chain, w_andV, w_orV, w_notV, w_if, w_isi, w_pNone, w_pSome, w_sl, w_nx, w_brk, w_cnt, w_drop, w_ret, w_retN, w_sif, w_raise, gmN, gmT, gmAll, w_asg, w_sfld, w_ssub, w_saug, w_for, w_iseq, w_irng1, w_irng2, slotQ_some, opQ_some, opD_some, getQ_some, opB_some, blQ_bl, tyQ_some, inQ_int, evQ_some, ghQ_some, List.getElem?_cons_zero, List.getElem?_cons_succ, List.set_cons_zero, List.set_cons_succ, List.map_cons, List.map_nil, List.cons_append, List.nil_append, List.replicate, List.length_cons, List.length_nil, o_add, o_sub, o_lt, o_le, o_gt, o_ge, o_les, o_eq, o_ne, o_eqs, o_nes, o_eqb, o_neb, o_is, o_isNot, o_iadd, o_neg, b_int, b_min, b_max, g9 ho, nin_dct by_ hro, hb, Option.isSome_some, Bool.not_true, Bool.false_eq_true, if_false]
  rw [q_Orders_waiting_for_2, w_seq]; simp only [w_ok, w_c, w_v, w_op, w_un, w_b, w_nil, w_cons, w_call, w_tup, w_lst, w_dct0, w_fld, w_meth, w_make, w_mt, w_get2, w_tru, w_asB, w_not, w_and, w_or, w_chain, w_andV, w_orV, w_notV, w_if, w_isi, w_pNone, w_pSome, w_sl, w_nx, w_brk, w_cnt, w_drop, w_ret, w_retN, w_sif, w_raise, gmN, gmT, gmAll, w_asg, w_sfld, w_ssub, w_saug, w_for, w_iseq, w_irng1, w_irng2, slotQ_some, opQ_some, opD_some, getQ_some, opB_some, blQ_bl, tyQ_some, inQ_int, evQ_some, ghQ_some, List.getElem?_cons_zero, List.getElem?_cons_succ, List.set_cons_zero, List.set_cons_succ, List.map_cons, List.map_nil, List.cons_append, List.nil_append, List.replicate, List.length_cons, List.length_nil, o_add, o_sub, o_lt, o_le, o_gt, o_ge, o_les, o_eq, o_ne, o_eqs, o_nes, o_eqb, o_neb, o_is, o_isNot, o_iadd, o_neg, b_int, b_min, b_max, insQ_of ho, at_er ho hpl hn]
  exact ⟨(by first | rfl | trivial), (by first | rfl | trivial)⟩
theorem wf_state {by_ : Str} {n : Nat} {z : Oz} {v : D} (ho : G.ob o = .ins 9 (ordsF o)) (hro : G.ob (o + 1) = .dct kro) (hpl : G.ob (o + 3) = .lst (os.map fun z => .ref z.id)) (hb : valD kro (.inr by_) = some v) (hn : os[n]? = some z) (hz : G.ob z.id = .ins 8 (ordF z.x (z.id + 1))) (hs : z.x.st ≠ "waiting") : m_Orders_waiting_for [.ref o, .str by_, .int ((n : Int) + 1)] G = .er 4 G := by
  apply eq_of_er
  unfold m_Orders_waiting_for b_Orders_waiting_for
  rw [w_fun]
  refine ⟨rfl, ?_⟩
  rw [q_Orders_waiting_for_1, w_seq]; simp only [w_ok, w_c, w_v, w_op, w_un, w_b, w_nil, w_cons, w_call, w_tup, w_lst, w_dct0, w_fld, w_meth, w_make, w_mt, w_get2, w_tru, w_asB, w_not, w_and, w_or, w_chain, w_andV, w_orV, w_notV, w_if, w_isi, w_pNone, w_pSome, w_sl, w_nx, w_brk, w_cnt, w_drop, w_ret, w_retN, w_sif, w_raise, gmN, gmT, gmAll, w_asg, w_sfld, w_ssub, w_saug, w_for, w_iseq, w_irng1, w_irng2, slotQ_some, opQ_some, opD_some, getQ_some, opB_some, blQ_bl, tyQ_some, inQ_int, evQ_some, ghQ_some, List.getElem?_cons_zero, List.getElem?_cons_succ, List.set_cons_zero, List.set_cons_succ, List.map_cons, List.map_nil, List.cons_append, List.nil_append, List.replicate, List.length_cons, List.length_nil, o_add, o_sub, o_lt, o_le, o_gt, o_ge, o_les, o_eq, o_ne, o_eqs, o_nes, o_eqb, o_neb, o_is, o_isNot, o_iadd, o_neg, b_int, b_min, b_max, g9 ho, nin_dct by_ hro, hb, Option.isSome_some, Bool.not_true, Bool.false_eq_true, if_false]
  rw [q_Orders_waiting_for_2, w_seq]; simp only [w_ok, w_c, w_v, w_op, w_un, w_b, w_nil, w_cons, w_call, w_tup, w_lst, w_dct0, w_fld, w_meth, w_make, w_mt, w_get2, w_tru, w_asB, w_not, w_and, w_or, w_chain, w_andV, w_orV, w_notV, w_if, w_isi, w_pNone, w_pSome, w_sl, w_nx, w_brk, w_cnt, w_drop, w_ret, w_retN, w_sif, w_raise, gmN, gmT, gmAll, w_asg, w_sfld, w_ssub, w_saug, w_for, w_iseq, w_irng1, w_irng2, slotQ_some, opQ_some, opD_some, getQ_some, opB_some, blQ_bl, tyQ_some, inQ_int, evQ_some, ghQ_some, List.getElem?_cons_zero, List.getElem?_cons_succ, List.set_cons_zero, List.set_cons_succ, List.map_cons, List.map_nil, List.cons_append, List.nil_append, List.replicate, List.length_cons, List.length_nil, o_add, o_sub, o_lt, o_le, o_gt, o_ge, o_les, o_eq, o_ne, o_eqs, o_nes, o_eqb, o_neb, o_is, o_isNot, o_iadd, o_neg, b_int, b_min, b_max, insQ_of ho, at_ok ho hpl hn]
  rw [q_Orders_waiting_for_3, w_seq]; simp only [w_ok, w_c, w_v, w_op, w_un, w_b, w_nil, w_cons, w_call, w_tup, w_lst, w_dct0, w_fld, w_meth, w_make, w_mt, w_get2, w_tru, w_asB, w_not, w_and, w_or, w_chain, w_andV, w_orV, w_notV, w_if, w_isi, w_pNone, w_pSome, w_sl, w_nx, w_brk, w_cnt, w_drop, w_ret, w_retN, w_sif, w_raise, gmN, gmT, gmAll, w_asg, w_sfld, w_ssub, w_saug, w_for, w_iseq, w_irng1, w_irng2, slotQ_some, opQ_some, opD_some, getQ_some, opB_some, blQ_bl, tyQ_some, inQ_int, evQ_some, ghQ_some, List.getElem?_cons_zero, List.getElem?_cons_succ, List.set_cons_zero, List.set_cons_succ, List.map_cons, List.map_nil, List.cons_append, List.nil_append, List.replicate, List.length_cons, List.length_nil, o_add, o_sub, o_lt, o_le, o_gt, o_ge, o_les, o_eq, o_ne, o_eqs, o_nes, o_eqb, o_neb, o_is, o_isNot, o_iadd, o_neg, b_int, b_min, b_max, fz hz 8 _ rfl rfl, decide_eq_false hs, Bool.not_false, if_true]
  exact ⟨(by first | rfl | trivial), (by first | rfl | trivial)⟩
theorem wf_bar {by_ s role : Str} {n : Nat} {z : Oz} (ho : G.ob o = .ins 9 (ordsF o)) (hro : G.ob (o + 1) = .dct kro) (hpl : G.ob (o + 3) = .lst (os.map fun z => .ref z.id)) (hb : valD kro (.inr by_) = some (.str s)) (hsr : roleB s = true) (hn : os[n]? = some z) (hz : G.ob z.id = .ins 8 (ordF z.x (z.id + 1))) (hs : z.x.st = "waiting") (hr : z.x.ro = .str role) (hrr : roleB role = true) (hbar : by_ = z.x.mr ∨ rkN s < rkN role) : m_Orders_waiting_for [.ref o, .str by_, .int ((n : Int) + 1)] G = .er 6 G := by
  apply eq_of_er
  unfold m_Orders_waiting_for b_Orders_waiting_for
  rw [w_fun]
  refine ⟨rfl, ?_⟩
  have f6 : fldO na 6 (.ref z.id) G = some (.str role) := by rw [← hr]; exact fz hz 6 _ rfl rfl
  rw [q_Orders_waiting_for_1, w_seq]; simp only [w_ok, w_c, w_v, w_op, w_un, w_b, w_nil, w_cons, w_call, w_tup, w_lst, w_dct0, w_fld, w_meth, w_make, w_mt, w_get2, w_tru, w_asB, w_not, w_and, w_or, w_chain, w_andV, w_orV, w_notV, w_if, w_isi, w_pNone, w_pSome, w_sl, w_nx, w_brk, w_cnt, w_drop, w_ret, w_retN, w_sif, w_raise, gmN, gmT, gmAll, w_asg, w_sfld, w_ssub, w_saug, w_for, w_iseq, w_irng1, w_irng2, slotQ_some, opQ_some, opD_some, getQ_some, opB_some, blQ_bl, tyQ_some, inQ_int, evQ_some, ghQ_some, List.getElem?_cons_zero, List.getElem?_cons_succ, List.set_cons_zero, List.set_cons_succ, List.map_cons, List.map_nil, List.cons_append, List.nil_append, List.replicate, List.length_cons, List.length_nil, o_add, o_sub, o_lt, o_le, o_gt, o_ge, o_les, o_eq, o_ne, o_eqs, o_nes, o_eqb, o_neb, o_is, o_isNot, o_iadd, o_neg, b_int, b_min, b_max, g9 ho, nin_dct by_ hro, hb, Option.isSome_some, Bool.not_true, Bool.false_eq_true, if_false]
  rw [q_Orders_waiting_for_2, w_seq]; simp only [w_ok, w_c, w_v, w_op, w_un, w_b, w_nil, w_cons, w_call, w_tup, w_lst, w_dct0, w_fld, w_meth, w_make, w_mt, w_get2, w_tru, w_asB, w_not, w_and, w_or, w_chain, w_andV, w_orV, w_notV, w_if, w_isi, w_pNone, w_pSome, w_sl, w_nx, w_brk, w_cnt, w_drop, w_ret, w_retN, w_sif, w_raise, gmN, gmT, gmAll, w_asg, w_sfld, w_ssub, w_saug, w_for, w_iseq, w_irng1, w_irng2, slotQ_some, opQ_some, opD_some, getQ_some, opB_some, blQ_bl, tyQ_some, inQ_int, evQ_some, ghQ_some, List.getElem?_cons_zero, List.getElem?_cons_succ, List.set_cons_zero, List.set_cons_succ, List.map_cons, List.map_nil, List.cons_append, List.nil_append, List.replicate, List.length_cons, List.length_nil, o_add, o_sub, o_lt, o_le, o_gt, o_ge, o_les, o_eq, o_ne, o_eqs, o_nes, o_eqb, o_neb, o_is, o_isNot, o_iadd, o_neg, b_int, b_min, b_max, insQ_of ho, at_ok ho hpl hn]
  rw [q_Orders_waiting_for_3, w_seq]; simp only [w_ok, w_c, w_v, w_op, w_un, w_b, w_nil, w_cons, w_call, w_tup, w_lst, w_dct0, w_fld, w_meth, w_make, w_mt, w_get2, w_tru, w_asB, w_not, w_and, w_or, w_chain, w_andV, w_orV, w_notV, w_if, w_isi, w_pNone, w_pSome, w_sl, w_nx, w_brk, w_cnt, w_drop, w_ret, w_retN, w_sif, w_raise, gmN, gmT, gmAll, w_asg, w_sfld, w_ssub, w_saug, w_for, w_iseq, w_irng1, w_irng2, slotQ_some, opQ_some, opD_some, getQ_some, opB_some, blQ_bl, tyQ_some, inQ_int, evQ_some, ghQ_some, List.getElem?_cons_zero, List.getElem?_cons_succ, List.set_cons_zero, List.set_cons_succ, List.map_cons, List.map_nil, List.cons_append, List.nil_append, List.replicate, List.length_cons, List.length_nil, o_add, o_sub, o_lt, o_le, o_gt, o_ge, o_les, o_eq, o_ne, o_eqs, o_nes, o_eqb, o_neb, o_is, o_isNot, o_iadd, o_neg, b_int, b_min, b_max, fz hz 8 _ rfl rfl, decide_eq_true hs, Bool.not_true, Bool.false_eq_true, if_false]
  rw [q_Orders_waiting_for_4, w_seq]
  simp only [w_ok, w_c, w_v, w_op, w_un, w_b, w_nil, w_cons, w_call, w_tup, w_lst, w_dct0, w_fld, w_meth, w_make, w_mt, w_get2, w_tru, w_asB, w_not, w_and, w_or, w_chain, w_andV, w_orV, w_notV, w_if, w_isi, w_pNone, w_pSome, w_sl, w_nx, w_brk, w_cnt, w_drop, w_ret, w_retN, w_sif, w_raise, gmN, gmT, gmAll, w_asg, w_sfld, w_ssub, w_saug, w_for, w_iseq, w_irng1, w_irng2, slotQ_some, opQ_some, opD_some, getQ_some, opB_some, blQ_bl, tyQ_some, inQ_int, evQ_some, ghQ_some, List.getElem?_cons_zero, List.getElem?_cons_succ, List.set_cons_zero, List.set_cons_succ, List.map_cons, List.map_nil, List.cons_append, List.nil_append, List.replicate, List.length_cons, List.length_nil, o_add, o_sub, o_lt, o_le, o_gt, o_ge, o_les, o_eq, o_ne, o_eqs, o_nes, o_eqb, o_neb, o_is, o_isNot, o_iadd, o_neg, b_int, b_min, b_max, fz hz 0 _ rfl rfl]
  by_cases hm : z.x.mr = by_
  · simp only [decide_eq_true hm, if_true]
    exact ⟨(by first | rfl | trivial), (by first | rfl | trivial)⟩
  · have hlt : rkN s < rkN role := hbar.resolve_left fun e => hm e.symm
    simp only [decide_eq_false hm, Bool.false_eq_true, if_false, f6, insQ_of ho, may_eq ho hro hb hsr hrr, decide_eq_false (show ¬ (rkN role : Int) ≤ (rkN s : Int) by omega), truD, Bool.not_false, if_true, w_ok, w_c, w_v, w_op, w_un, w_b, w_nil, w_cons, w_call, w_tup, w_lst, w_dct0, w_fld, w_meth, w_make, w_mt, w_get2, w_tru, w_asB, w_not, w_and, w_or, w_chain, w_andV, w_orV, w_notV, w_if, w_isi, w_pNone, w_pSome, w_sl, w_nx, w_brk, w_cnt, w_drop, w_ret, w_retN, w_sif, w_raise, gmN, gmT, gmAll, w_asg, w_sfld, w_ssub, w_saug, w_for, w_iseq, w_irng1, w_irng2, slotQ_some, opQ_some, opD_some, getQ_some, opB_some, blQ_bl, tyQ_some, inQ_int, evQ_some, ghQ_some, List.getElem?_cons_zero, List.getElem?_cons_succ, List.set_cons_zero, List.set_cons_succ, List.map_cons, List.map_nil, List.cons_append, List.nil_append, List.replicate, List.length_cons, List.length_nil]
    exact ⟨(by first | rfl | trivial), (by first | rfl | trivial)⟩
theorem wf_ok {by_ s role : Str} {n : Nat} {z : Oz} (ho : G.ob o = .ins 9 (ordsF o)) (hro : G.ob (o + 1) = .dct kro) (hpl : G.ob (o + 3) = .lst (os.map fun z => .ref z.id)) (hb : valD kro (.inr by_) = some (.str s)) (hsr : roleB s = true) (hn : os[n]? = some z) (hz : G.ob z.id = .ins 8 (ordF z.x (z.id + 1))) (hs : z.x.st = "waiting") (hr : z.x.ro = .str role) (hrr : roleB role = true) (hbar : ¬ (by_ = z.x.mr ∨ rkN s < rkN role)) : m_Orders_waiting_for [.ref o, .str by_, .int ((n : Int) + 1)] G = .ok (.ref z.id) G := by
  apply eq_of_sat
  unfold m_Orders_waiting_for b_Orders_waiting_for
  rw [w_fun]
  refine ⟨rfl, ?_⟩
  have f6 : fldO na 6 (.ref z.id) G = some (.str role) := by rw [← hr]; exact fz hz 6 _ rfl rfl
  have hm : ¬ z.x.mr = by_ := fun e => hbar (.inl e.symm)
  rw [q_Orders_waiting_for_1, w_seq]; simp only [w_ok, w_c, w_v, w_op, w_un, w_b, w_nil, w_cons, w_call, w_tup, w_lst, w_dct0, w_fld, w_meth, w_make, w_mt, w_get2, w_tru, w_asB, w_not, w_and, w_or, w_chain, w_andV, w_orV, w_notV, w_if, w_isi, w_pNone, w_pSome, w_sl, w_nx, w_brk, w_cnt, w_drop, w_ret, w_retN, w_sif, w_raise, gmN, gmT, gmAll, w_asg, w_sfld, w_ssub, w_saug, w_for, w_iseq, w_irng1, w_irng2, slotQ_some, opQ_some, opD_some, getQ_some, opB_some, blQ_bl, tyQ_some, inQ_int, evQ_some, ghQ_some, List.getElem?_cons_zero, List.getElem?_cons_succ, List.set_cons_zero, List.set_cons_succ, List.map_cons, List.map_nil, List.cons_append, List.nil_append, List.replicate, List.length_cons, List.length_nil, o_add, o_sub, o_lt, o_le, o_gt, o_ge, o_les, o_eq, o_ne, o_eqs, o_nes, o_eqb, o_neb, o_is, o_isNot, o_iadd, o_neg, b_int, b_min, b_max, g9 ho, nin_dct by_ hro, hb, Option.isSome_some, Bool.not_true, Bool.false_eq_true, if_false]
  rw [q_Orders_waiting_for_2, w_seq]; simp only [w_ok, w_c, w_v, w_op, w_un, w_b, w_nil, w_cons, w_call, w_tup, w_lst, w_dct0, w_fld, w_meth, w_make, w_mt, w_get2, w_tru, w_asB, w_not, w_and, w_or, w_chain, w_andV, w_orV, w_notV, w_if, w_isi, w_pNone, w_pSome, w_sl, w_nx, w_brk, w_cnt, w_drop, w_ret, w_retN, w_sif, w_raise, gmN, gmT, gmAll, w_asg, w_sfld, w_ssub, w_saug, w_for, w_iseq, w_irng1, w_irng2, slotQ_some, opQ_some, opD_some, getQ_some, opB_some, blQ_bl, tyQ_some, inQ_int, evQ_some, ghQ_some, List.getElem?_cons_zero, List.getElem?_cons_succ, List.set_cons_zero, List.set_cons_succ, List.map_cons, List.map_nil, List.cons_append, List.nil_append, List.replicate, List.length_cons, List.length_nil, o_add, o_sub, o_lt, o_le, o_gt, o_ge, o_les, o_eq, o_ne, o_eqs, o_nes, o_eqb, o_neb, o_is, o_isNot, o_iadd, o_neg, b_int, b_min, b_max, insQ_of ho, at_ok ho hpl hn]
  rw [q_Orders_waiting_for_3, w_seq]; simp only [w_ok, w_c, w_v, w_op, w_un, w_b, w_nil, w_cons, w_call, w_tup, w_lst, w_dct0, w_fld, w_meth, w_make, w_mt, w_get2, w_tru, w_asB, w_not, w_and, w_or, w_chain, w_andV, w_orV, w_notV, w_if, w_isi, w_pNone, w_pSome, w_sl, w_nx, w_brk, w_cnt, w_drop, w_ret, w_retN, w_sif, w_raise, gmN, gmT, gmAll, w_asg, w_sfld, w_ssub, w_saug, w_for, w_iseq, w_irng1, w_irng2, slotQ_some, opQ_some, opD_some, getQ_some, opB_some, blQ_bl, tyQ_some, inQ_int, evQ_some, ghQ_some, List.getElem?_cons_zero, List.getElem?_cons_succ, List.set_cons_zero, List.set_cons_succ, List.map_cons, List.map_nil, List.cons_append, List.nil_append, List.replicate, List.length_cons, List.length_nil, o_add, o_sub, o_lt, o_le, o_gt, o_ge, o_les, o_eq, o_ne, o_eqs, o_nes, o_eqb, o_neb, o_is, o_isNot, o_iadd, o_neg, b_int, b_min, b_max, fz hz 8 _ rfl rfl, decide_eq_true hs, Bool.not_true, Bool.false_eq_true, if_false]
  rw [q_Orders_waiting_for_4, w_seq]
  simp only [w_ok, w_c, w_v, w_op, w_un, w_b, w_nil, w_cons, w_call, w_tup, w_lst, w_dct0, w_fld, w_meth, w_make, w_mt, w_get2, w_tru, w_asB, w_not, w_and, w_or, w_chain, w_andV, w_orV, w_notV, w_if, w_isi, w_pNone, w_pSome, w_sl, w_nx, w_brk, w_cnt, w_drop, w_ret, w_retN, w_sif, w_raise, gmN, gmT, gmAll, w_asg, w_sfld, w_ssub, w_saug, w_for, w_iseq, w_irng1, w_irng2, slotQ_some, opQ_some, opD_some, getQ_some, opB_some, blQ_bl, tyQ_some, inQ_int, evQ_some, ghQ_some, List.getElem?_cons_zero, List.getElem?_cons_succ, List.set_cons_zero, List.set_cons_succ, List.map_cons, List.map_nil, List.cons_append, List.nil_append, List.replicate, List.length_cons, List.length_nil, o_add, o_sub, o_lt, o_le, o_gt, o_ge, o_les, o_eq, o_ne, o_eqs, o_nes, o_eqb, o_neb, o_is, o_isNot, o_iadd, o_neg, b_int, b_min, b_max, fz hz 0 _ rfl rfl, decide_eq_false hm, Bool.false_eq_true, if_false, f6, insQ_of ho, may_eq ho hro hb hsr hrr, decide_eq_true (show (rkN role : Int) ≤ (rkN s : Int) by omega), truD, Bool.not_true]
  exact ⟨(by first | rfl | trivial), (by first | rfl | trivial)⟩
/-- what is left of it -/
def DoneP (r : Rs D) (G : Gh) (z : Oz) (st : Str) (gs : List Str) : Prop := ∃ G', r = .ok (.str st) G' ∧ FrX [z.id, z.id + 1] G G' ∧ G'.ob z.id = .ins 8 (ordF { z.x with st := st } (z.id + 1)) ∧ G'.ob (z.id + 1) = .lst (gs.map D.str)
theorem setst {z : Oz} (h : G.ob z.id = .ins 8 (ordF z.x (z.id + 1))) (s : Str) : setFldO na 8 (.ref z.id) (.str s) G = some (G.set z.id (.ins 8 (ordF { z.x with st := s } (z.id + 1)))) := by
  rw [setFld_ok h rfl (by unfold ordF; simp only [List.length_cons, List.length_nil]; decide)]; rfl
theorem f8st {z : Oz} {s : Str} : fldO na 8 (.ref z.id) (G.set z.id (.ins 8 (ordF { z.x with st := s } (z.id + 1)))) = some (.str s) := fld_of (ob_set_same _ _ _) rfl rfl
theorem done_set {z : Oz} {s : Str} {r : Rs D} (h2 : G.ob (z.id + 1) = .lst (z.gs.map D.str)) (e : r = .ok (.str s) (G.set z.id (.ins 8 (ordF { z.x with st := s } (z.id + 1))))) : DoneP r G z s z.gs := by
  refine ⟨_, e, ⟨Nat.le_refl _, fun j hj hn => ob_set_ne _ _ (fun e => hn (by simp [e]))⟩, ob_set_same _ _ _, ?_⟩
  rw [ob_set_ne _ _ (by omega)]
  exact h2
theorem grant_er {by_ : Str} {n : Int} {c : Nat} (ho : G.ob o = .ins 9 (ordsF o)) (h : m_Orders_waiting_for [.ref o, .str by_, .int n] G = .er c G) : m_Orders_grant [.ref o, .str by_, .int n] G = .er c G := by
  apply eq_of_er
  unfold m_Orders_grant b_Orders_grant
  rw [w_fun]
  refine ⟨rfl, ?_⟩
  rw [q_Orders_grant_1, w_seq]; simp only [w_ok, w_c, w_v, w_op, w_un, w_b, w_nil, w_cons, w_call, w_tup, w_lst, w_dct0, w_fld, w_meth, w_make, w_mt, w_get2, w_tru, w_asB, w_not, w_and, w_or, w_chain, w_andV, w_orV, w_notV, w_if, w_isi, w_pNone, w_pSome, w_sl, w_nx, w_brk, w_cnt, w_drop, w_ret, w_retN, w_sif, w_raise, gmN, gmT, gmAll, w_asg, w_sfld, w_ssub, w_saug, w_for, w_iseq, w_irng1, w_irng2, slotQ_some, opQ_some, opD_some, getQ_some, opB_some, blQ_bl, tyQ_some, inQ_int, evQ_some, ghQ_some, List.getElem?_cons_zero, List.getElem?_cons_succ, List.set_cons_zero, List.set_cons_succ, List.map_cons, List.map_nil, List.cons_append, List.nil_append, List.replicate, List.length_cons, List.length_nil, o_add, o_sub, o_lt, o_le, o_gt, o_ge, o_les, o_eq, o_ne, o_eqs, o_nes, o_eqb, o_neb, o_is, o_isNot, o_iadd, o_neg, b_int, b_min, b_max, insQ_of ho, h]
  exact ⟨(by first | rfl | trivial), (by first | rfl | trivial)⟩
theorem reject_er {by_ : Str} {n : Int} {c : Nat} (ho : G.ob o = .ins 9 (ordsF o)) (h : m_Orders_waiting_for [.ref o, .str by_, .int n] G = .er c G) : m_Orders_reject [.ref o, .str by_, .int n] G = .er c G := by
  apply eq_of_er
  unfold m_Orders_reject b_Orders_reject
  rw [w_fun]
  refine ⟨rfl, ?_⟩
  rw [q_Orders_reject_1, w_seq]; simp only [w_ok, w_c, w_v, w_op, w_un, w_b, w_nil, w_cons, w_call, w_tup, w_lst, w_dct0, w_fld, w_meth, w_make, w_mt, w_get2, w_tru, w_asB, w_not, w_and, w_or, w_chain, w_andV, w_orV, w_notV, w_if, w_isi, w_pNone, w_pSome, w_sl, w_nx, w_brk, w_cnt, w_drop, w_ret, w_retN, w_sif, w_raise, gmN, gmT, gmAll, w_asg, w_sfld, w_ssub, w_saug, w_for, w_iseq, w_irng1, w_irng2, slotQ_some, opQ_some, opD_some, getQ_some, opB_some, blQ_bl, tyQ_some, inQ_int, evQ_some, ghQ_some, List.getElem?_cons_zero, List.getElem?_cons_succ, List.set_cons_zero, List.set_cons_succ, List.map_cons, List.map_nil, List.cons_append, List.nil_append, List.replicate, List.length_cons, List.length_nil, o_add, o_sub, o_lt, o_le, o_gt, o_ge, o_les, o_eq, o_ne, o_eqs, o_nes, o_eqb, o_neb, o_is, o_isNot, o_iadd, o_neg, b_int, b_min, b_max, insQ_of ho, h]
  exact ⟨(by first | rfl | trivial), (by first | rfl | trivial)⟩
theorem reject_ok {by_ : Str} {n : Int} {z : Oz} (ho : G.ob o = .ins 9 (ordsF o)) (hz : G.ob z.id = .ins 8 (ordF z.x (z.id + 1))) (h2 : G.ob (z.id + 1) = .lst (z.gs.map D.str)) (h : m_Orders_waiting_for [.ref o, .str by_, .int n] G = .ok (.ref z.id) G) : DoneP (m_Orders_reject [.ref o, .str by_, .int n] G) G z "rejected" z.gs := by
  refine done_set h2 ?_
  apply eq_of_sat
  unfold m_Orders_reject b_Orders_reject
  rw [w_fun]
  refine ⟨rfl, ?_⟩
  rw [q_Orders_reject_1, w_seq]; simp only [w_ok, w_c, w_v, w_op, w_un, w_b, w_nil, w_cons, w_call, w_tup, w_lst, w_dct0, w_fld, w_meth, w_make, w_mt, w_get2, w_tru, w_asB, w_not, w_and, w_or, w_chain, w_andV, w_orV, w_notV, w_if, w_isi, w_pNone, w_pSome, w_sl, w_nx, w_brk, w_cnt, w_drop, w_ret, w_retN, w_sif, w_raise, gmN, gmT, gmAll, w_asg, w_sfld, w_ssub, w_saug, w_for, w_iseq, w_irng1, w_irng2, slotQ_some, opQ_some, opD_some, getQ_some, opB_some, blQ_bl, tyQ_some, inQ_int, evQ_some, ghQ_some, List.getElem?_cons_zero, List.getElem?_cons_succ, List.set_cons_zero, List.set_cons_succ, List.map_cons, List.map_nil, List.cons_append, List.nil_append, List.replicate, List.length_cons, List.length_nil, o_add, o_sub, o_lt, o_le, o_gt, o_ge, o_les, o_eq, o_ne, o_eqs, o_nes, o_eqb, o_neb, o_is, o_isNot, o_iadd, o_neg, b_int, b_min, b_max, insQ_of ho, h]
  rw [q_Orders_reject_2, w_seq]; simp only [w_ok, w_c, w_v, w_op, w_un, w_b, w_nil, w_cons, w_call, w_tup, w_lst, w_dct0, w_fld, w_meth, w_make, w_mt, w_get2, w_tru, w_asB, w_not, w_and, w_or, w_chain, w_andV, w_orV, w_notV, w_if, w_isi, w_pNone, w_pSome, w_sl, w_nx, w_brk, w_cnt, w_drop, w_ret, w_retN, w_sif, w_raise, gmN, gmT, gmAll, w_asg, w_sfld, w_ssub, w_saug, w_for, w_iseq, w_irng1, w_irng2, slotQ_some, opQ_some, opD_some, getQ_some, opB_some, blQ_bl, tyQ_some, inQ_int, evQ_some, ghQ_some, List.getElem?_cons_zero, List.getElem?_cons_succ, List.set_cons_zero, List.set_cons_succ, List.map_cons, List.map_nil, List.cons_append, List.nil_append, List.replicate, List.length_cons, List.length_nil, o_add, o_sub, o_lt, o_le, o_gt, o_ge, o_les, o_eq, o_ne, o_eqs, o_nes, o_eqb, o_neb, o_is, o_isNot, o_iadd, o_neg, b_int, b_min, b_max, setst hz, f8st]
  exact ⟨(by first | rfl | trivial), (by first | rfl | trivial)⟩
theorem grant_twice {by_ : Str} {n : Int} {z : Oz} (ho : G.ob o = .ins 9 (ordsF o)) (hz : G.ob z.id = .ins 8 (ordF z.x (z.id + 1))) (h2 : G.ob (z.id + 1) = .lst (z.gs.map D.str)) (h : m_Orders_waiting_for [.ref o, .str by_, .int n] G = .ok (.ref z.id) G) (hg : by_ ∈ z.gs) : m_Orders_grant [.ref o, .str by_, .int n] G = .er 6 G := by
  apply eq_of_er
  unfold m_Orders_grant b_Orders_grant
  rw [w_fun]
  refine ⟨rfl, ?_⟩
  rw [q_Orders_grant_1, w_seq]; simp only [w_ok, w_c, w_v, w_op, w_un, w_b, w_nil, w_cons, w_call, w_tup, w_lst, w_dct0, w_fld, w_meth, w_make, w_mt, w_get2, w_tru, w_asB, w_not, w_and, w_or, w_chain, w_andV, w_orV, w_notV, w_if, w_isi, w_pNone, w_pSome, w_sl, w_nx, w_brk, w_cnt, w_drop, w_ret, w_retN, w_sif, w_raise, gmN, gmT, gmAll, w_asg, w_sfld, w_ssub, w_saug, w_for, w_iseq, w_irng1, w_irng2, slotQ_some, opQ_some, opD_some, getQ_some, opB_some, blQ_bl, tyQ_some, inQ_int, evQ_some, ghQ_some, List.getElem?_cons_zero, List.getElem?_cons_succ, List.set_cons_zero, List.set_cons_succ, List.map_cons, List.map_nil, List.cons_append, List.nil_append, List.replicate, List.length_cons, List.length_nil, o_add, o_sub, o_lt, o_le, o_gt, o_ge, o_les, o_eq, o_ne, o_eqs, o_nes, o_eqb, o_neb, o_is, o_isNot, o_iadd, o_neg, b_int, b_min, b_max, insQ_of ho, h]
  rw [q_Orders_grant_2, w_seq]; simp only [w_ok, w_c, w_v, w_op, w_un, w_b, w_nil, w_cons, w_call, w_tup, w_lst, w_dct0, w_fld, w_meth, w_make, w_mt, w_get2, w_tru, w_asB, w_not, w_and, w_or, w_chain, w_andV, w_orV, w_notV, w_if, w_isi, w_pNone, w_pSome, w_sl, w_nx, w_brk, w_cnt, w_drop, w_ret, w_retN, w_sif, w_raise, gmN, gmT, gmAll, w_asg, w_sfld, w_ssub, w_saug, w_for, w_iseq, w_irng1, w_irng2, slotQ_some, opQ_some, opD_some, getQ_some, opB_some, blQ_bl, tyQ_some, inQ_int, evQ_some, ghQ_some, List.getElem?_cons_zero, List.getElem?_cons_succ, List.set_cons_zero, List.set_cons_succ, List.map_cons, List.map_nil, List.cons_append, List.nil_append, List.replicate, List.length_cons, List.length_nil, o_add, o_sub, o_lt, o_le, o_gt, o_ge, o_les, o_eq, o_ne, o_eqs, o_nes, o_eqb, o_neb, o_is, o_isNot, o_iadd, o_neg, b_int, b_min, b_max, fz hz 7 _ rfl rfl, in_strs by_ h2, decide_eq_true hg, if_true]
  exact ⟨(by first | rfl | trivial), (by first | rfl | trivial)⟩
theorem grant_ok {by_ : Str} {n : Int} {z : Oz} (ho : G.ob o = .ins 9 (ordsF o)) (hz : G.ob z.id = .ins 8 (ordF z.x (z.id + 1))) (h2 : G.ob (z.id + 1) = .lst (z.gs.map D.str)) (h : m_Orders_waiting_for [.ref o, .str by_, .int n] G = .ok (.ref z.id) G) (hg : by_ ∉ z.gs) (hl : z.gs.length ≤ 1000) : DoneP (m_Orders_grant [.ref o, .str by_, .int n] G) G z (if ((z.gs.length : Int) + 1) = z.x.rq then "ready" else z.x.st) (z.gs ++ [by_]) := by
  have hap : mAppend (.ref (z.id + 1)) [.str by_] G = some (.non, G.set (z.id + 1) (.lst ((z.gs ++ [by_]).map D.str))) := by
    rw [m_append h2 (sz2 (by rw [List.length_map]; omega)), List.map_append]; rfl
  have hz2 : (G.set (z.id + 1) (.lst ((z.gs ++ [by_]).map D.str))).ob z.id = .ins 8 (ordF z.x (z.id + 1)) := (ob_set_ne _ _ (by omega)).trans hz
  have hlen : lenD (.ref (z.id + 1)) (G.set (z.id + 1) (.lst ((z.gs ++ [by_]).map D.str))) = some (z.gs.length + 1) := (len_lst (ob_set_same _ _ _)).trans (by rw [List.length_map, List.length_append]; rfl)
  have key : (m_Orders_grant [.ref o, .str by_, .int n] G).sat (fun d G' => d = .str (if ((z.gs.length : Int) + 1) = z.x.rq then "ready" else z.x.st) ∧ FrX [z.id, z.id + 1] G G' ∧ G'.ob z.id = .ins 8 (ordF { z.x with st := (if ((z.gs.length : Int) + 1) = z.x.rq then "ready" else z.x.st) } (z.id + 1)) ∧ G'.ob (z.id + 1) = .lst ((z.gs ++ [by_]).map D.str)) nE := by
    unfold m_Orders_grant b_Orders_grant
    rw [w_fun]
    refine ⟨rfl, ?_⟩
    rw [q_Orders_grant_1, w_seq]; simp only [w_ok, w_c, w_v, w_op, w_un, w_b, w_nil, w_cons, w_call, w_tup, w_lst, w_dct0, w_fld, w_meth, w_make, w_mt, w_get2, w_tru, w_asB, w_not, w_and, w_or, w_chain, w_andV, w_orV, w_notV, w_if, w_isi, w_pNone, w_pSome, w_sl, w_nx, w_brk, w_cnt, w_drop, w_ret, w_retN, w_sif, w_raise, gmN, gmT, gmAll, w_asg, w_sfld, w_ssub, w_saug, w_for, w_iseq, w_irng1, w_irng2, slotQ_some, opQ_some, opD_some, getQ_some, opB_some, blQ_bl, tyQ_some, inQ_int, evQ_some, ghQ_some, List.getElem?_cons_zero, List.getElem?_cons_succ, List.set_cons_zero, List.set_cons_succ, List.map_cons, List.map_nil, List.cons_append, List.nil_append, List.replicate, List.length_cons, List.length_nil, o_add, o_sub, o_lt, o_le, o_gt, o_ge, o_les, o_eq, o_ne, o_eqs, o_nes, o_eqb, o_neb, o_is, o_isNot, o_iadd, o_neg, b_int, b_min, b_max, insQ_of ho, h]
    rw [q_Orders_grant_2, w_seq]; simp only [w_ok, w_c, w_v, w_op, w_un, w_b, w_nil, w_cons, w_call, w_tup, w_lst, w_dct0, w_fld, w_meth, w_make, w_mt, w_get2, w_tru, w_asB, w_not, w_and, w_or, w_chain, w_andV, w_orV, w_notV, w_if, w_isi, w_pNone, w_pSome, w_sl, w_nx, w_brk, w_cnt, w_drop, w_ret, w_retN, w_sif, w_raise, gmN, gmT, gmAll, w_asg, w_sfld, w_ssub, w_saug, w_for, w_iseq, w_irng1, w_irng2, slotQ_some, opQ_some, opD_some, getQ_some, opB_some, blQ_bl, tyQ_some, inQ_int, evQ_some, ghQ_some, List.getElem?_cons_zero, List.getElem?_cons_succ, List.set_cons_zero, List.set_cons_succ, List.map_cons, List.map_nil, List.cons_append, List.nil_append, List.replicate, List.length_cons, List.length_nil, o_add, o_sub, o_lt, o_le, o_gt, o_ge, o_les, o_eq, o_ne, o_eqs, o_nes, o_eqb, o_neb, o_is, o_isNot, o_iadd, o_neg, b_int, b_min, b_max, fz hz 7 _ rfl rfl, in_strs by_ h2, decide_eq_false hg, Bool.false_eq_true, if_false]
    rw [q_Orders_grant_3, w_seq]; simp only [w_ok, w_c, w_v, w_op, w_un, w_b, w_nil, w_cons, w_call, w_tup, w_lst, w_dct0, w_fld, w_meth, w_make, w_mt, w_get2, w_tru, w_asB, w_not, w_and, w_or, w_chain, w_andV, w_orV, w_notV, w_if, w_isi, w_pNone, w_pSome, w_sl, w_nx, w_brk, w_cnt, w_drop, w_ret, w_retN, w_sif, w_raise, gmN, gmT, gmAll, w_asg, w_sfld, w_ssub, w_saug, w_for, w_iseq, w_irng1, w_irng2, slotQ_some, opQ_some, opD_some, getQ_some, opB_some, blQ_bl, tyQ_some, inQ_int, evQ_some, ghQ_some, List.getElem?_cons_zero, List.getElem?_cons_succ, List.set_cons_zero, List.set_cons_succ, List.map_cons, List.map_nil, List.cons_append, List.nil_append, List.replicate, List.length_cons, List.length_nil, o_add, o_sub, o_lt, o_le, o_gt, o_ge, o_les, o_eq, o_ne, o_eqs, o_nes, o_eqb, o_neb, o_is, o_isNot, o_iadd, o_neg, b_int, b_min, b_max, fz hz 7 _ rfl rfl, isLst_of h2, true_and, hap]
    rw [q_Orders_grant_4, w_seq]
    have cast : ((z.gs.length + 1 : Nat) : Int) = (z.gs.length : Int) + 1 := by omega
    simp only [w_ok, w_c, w_v, w_op, w_un, w_b, w_nil, w_cons, w_call, w_tup, w_lst, w_dct0, w_fld, w_meth, w_make, w_mt, w_get2, w_tru, w_asB, w_not, w_and, w_or, w_chain, w_andV, w_orV, w_notV, w_if, w_isi, w_pNone, w_pSome, w_sl, w_nx, w_brk, w_cnt, w_drop, w_ret, w_retN, w_sif, w_raise, gmN, gmT, gmAll, w_asg, w_sfld, w_ssub, w_saug, w_for, w_iseq, w_irng1, w_irng2, slotQ_some, opQ_some, opD_some, getQ_some, opB_some, blQ_bl, tyQ_some, inQ_int, evQ_some, ghQ_some, List.getElem?_cons_zero, List.getElem?_cons_succ, List.set_cons_zero, List.set_cons_succ, List.map_cons, List.map_nil, List.cons_append, List.nil_append, List.replicate, List.length_cons, List.length_nil, o_add, o_sub, o_lt, o_le, o_gt, o_ge, o_les, o_eq, o_ne, o_eqs, o_nes, o_eqb, o_neb, o_is, o_isNot, o_iadd, o_neg, b_int, b_min, b_max, fz hz2 7 _ rfl rfl, fz hz2 5 _ rfl rfl, b_len hlen, cast]
    by_cases hq : ((z.gs.length : Int) + 1) = z.x.rq
    · simp only [decide_eq_true hq, if_true, setst hz2, f8st, w_ok, w_c, w_v, w_op, w_un, w_b, w_nil, w_cons, w_call, w_tup, w_lst, w_dct0, w_fld, w_meth, w_make, w_mt, w_get2, w_tru, w_asB, w_not, w_and, w_or, w_chain, w_andV, w_orV, w_notV, w_if, w_isi, w_pNone, w_pSome, w_sl, w_nx, w_brk, w_cnt, w_drop, w_ret, w_retN, w_sif, w_raise, gmN, gmT, gmAll, w_asg, w_sfld, w_ssub, w_saug, w_for, w_iseq, w_irng1, w_irng2, slotQ_some, opQ_some, opD_some, getQ_some, opB_some, blQ_bl, tyQ_some, inQ_int, evQ_some, ghQ_some, List.getElem?_cons_zero, List.getElem?_cons_succ, List.set_cons_zero, List.set_cons_succ, List.map_cons, List.map_nil, List.cons_append, List.nil_append, List.replicate, List.length_cons, List.length_nil]
      rw [if_pos hq]
      refine ⟨(by first | rfl | trivial), ⟨Nat.le_refl _, fun j hj hn => ?_⟩, ob_set_same _ _ _, (ob_set_ne _ _ (by omega)).trans (ob_set_same _ _ _)⟩
      simp only [List.mem_cons, List.not_mem_nil, or_false, not_or] at hn
      rw [ob_set_ne _ _ hn.1, ob_set_ne _ _ hn.2]
    · simp only [decide_eq_false hq, Bool.false_eq_true, if_false, fz hz2 8 _ rfl rfl, w_ok, w_c, w_v, w_op, w_un, w_b, w_nil, w_cons, w_call, w_tup, w_lst, w_dct0, w_fld, w_meth, w_make, w_mt, w_get2, w_tru, w_asB, w_not, w_and, w_or, w_chain, w_andV, w_orV, w_notV, w_if, w_isi, w_pNone, w_pSome, w_sl, w_nx, w_brk, w_cnt, w_drop, w_ret, w_retN, w_sif, w_raise, gmN, gmT, gmAll, w_asg, w_sfld, w_ssub, w_saug, w_for, w_iseq, w_irng1, w_irng2, slotQ_some, opQ_some, opD_some, getQ_some, opB_some, blQ_bl, tyQ_some, inQ_int, evQ_some, ghQ_some, List.getElem?_cons_zero, List.getElem?_cons_succ, List.set_cons_zero, List.set_cons_succ, List.map_cons, List.map_nil, List.cons_append, List.nil_append, List.replicate, List.length_cons, List.length_nil]
      rw [if_neg hq]
      refine ⟨(by first | rfl | trivial), ⟨Nat.le_refl _, fun j hj hn => ?_⟩, hz2, ob_set_same _ _ _⟩
      simp only [List.mem_cons, List.not_mem_nil, or_false, not_or] at hn
      rw [ob_set_ne _ _ hn.2]
  obtain ⟨d, G', e, rfl, k⟩ := Rs.ok_of key
  exact ⟨G', e, k⟩
theorem withdraw_miss {by_ : Str} {n : Int} (ho : G.ob o = .ins 9 (ordsF o)) (hpl : G.ob (o + 3) = .lst (os.map fun z => .ref z.id)) (hn : ¬ (1 ≤ n ∧ n ≤ os.length)) : m_Orders_withdraw [.ref o, .str by_, .int n] G = .er 3 G := by
  apply eq_of_er
  unfold m_Orders_withdraw b_Orders_withdraw
  rw [w_fun]
  refine ⟨rfl, ?_⟩
  rw [q_Orders_withdraw_1, w_seq]; simp only [w_ok, w_c, w_v, w_op, w_un, w_b, w_nil, w_cons, w_call, w_tup, w_lst, w_dct0, w_fld, w_meth, w_make, w_mt, w_get2, w_tru, w_asB, w_not, w_and, w_or, w_chain, w_andV, w_orV, w_notV, w_if, w_isi, w_pNone, w_pSome, w_sl, w_nx, w_brk, w_cnt, w_drop, w_ret, w_retN, w_sif, w_raise, gmN, gmT, gmAll, w_asg, w_sfld, w_ssub, w_saug, w_for, w_iseq, w_irng1, w_irng2, slotQ_some, opQ_some, opD_some, getQ_some, opB_some, blQ_bl, tyQ_some, inQ_int, evQ_some, ghQ_some, List.getElem?_cons_zero, List.getElem?_cons_succ, List.set_cons_zero, List.set_cons_succ, List.map_cons, List.map_nil, List.cons_append, List.nil_append, List.replicate, List.length_cons, List.length_nil, o_add, o_sub, o_lt, o_le, o_gt, o_ge, o_les, o_eq, o_ne, o_eqs, o_nes, o_eqb, o_neb, o_is, o_isNot, o_iadd, o_neg, b_int, b_min, b_max, insQ_of ho, at_er ho hpl hn]
  exact ⟨(by first | rfl | trivial), (by first | rfl | trivial)⟩
theorem withdraw_bar {by_ : Str} {n : Nat} {z : Oz} (ho : G.ob o = .ins 9 (ordsF o)) (hpl : G.ob (o + 3) = .lst (os.map fun z => .ref z.id)) (hn : os[n]? = some z) (hz : G.ob z.id = .ins 8 (ordF z.x (z.id + 1))) (hm : z.x.mr ≠ by_) : m_Orders_withdraw [.ref o, .str by_, .int ((n : Int) + 1)] G = .er 6 G := by
  apply eq_of_er
  unfold m_Orders_withdraw b_Orders_withdraw
  rw [w_fun]
  refine ⟨rfl, ?_⟩
  rw [q_Orders_withdraw_1, w_seq]; simp only [w_ok, w_c, w_v, w_op, w_un, w_b, w_nil, w_cons, w_call, w_tup, w_lst, w_dct0, w_fld, w_meth, w_make, w_mt, w_get2, w_tru, w_asB, w_not, w_and, w_or, w_chain, w_andV, w_orV, w_notV, w_if, w_isi, w_pNone, w_pSome, w_sl, w_nx, w_brk, w_cnt, w_drop, w_ret, w_retN, w_sif, w_raise, gmN, gmT, gmAll, w_asg, w_sfld, w_ssub, w_saug, w_for, w_iseq, w_irng1, w_irng2, slotQ_some, opQ_some, opD_some, getQ_some, opB_some, blQ_bl, tyQ_some, inQ_int, evQ_some, ghQ_some, List.getElem?_cons_zero, List.getElem?_cons_succ, List.set_cons_zero, List.set_cons_succ, List.map_cons, List.map_nil, List.cons_append, List.nil_append, List.replicate, List.length_cons, List.length_nil, o_add, o_sub, o_lt, o_le, o_gt, o_ge, o_les, o_eq, o_ne, o_eqs, o_nes, o_eqb, o_neb, o_is, o_isNot, o_iadd, o_neg, b_int, b_min, b_max, insQ_of ho, at_ok ho hpl hn]
  rw [q_Orders_withdraw_2, w_seq]; simp only [w_ok, w_c, w_v, w_op, w_un, w_b, w_nil, w_cons, w_call, w_tup, w_lst, w_dct0, w_fld, w_meth, w_make, w_mt, w_get2, w_tru, w_asB, w_not, w_and, w_or, w_chain, w_andV, w_orV, w_notV, w_if, w_isi, w_pNone, w_pSome, w_sl, w_nx, w_brk, w_cnt, w_drop, w_ret, w_retN, w_sif, w_raise, gmN, gmT, gmAll, w_asg, w_sfld, w_ssub, w_saug, w_for, w_iseq, w_irng1, w_irng2, slotQ_some, opQ_some, opD_some, getQ_some, opB_some, blQ_bl, tyQ_some, inQ_int, evQ_some, ghQ_some, List.getElem?_cons_zero, List.getElem?_cons_succ, List.set_cons_zero, List.set_cons_succ, List.map_cons, List.map_nil, List.cons_append, List.nil_append, List.replicate, List.length_cons, List.length_nil, o_add, o_sub, o_lt, o_le, o_gt, o_ge, o_les, o_eq, o_ne, o_eqs, o_nes, o_eqb, o_neb, o_is, o_isNot, o_iadd, o_neg, b_int, b_min, b_max, fz hz 0 _ rfl rfl, decide_eq_false hm, Bool.not_false, if_true]
  exact ⟨(by first | rfl | trivial), (by first | rfl | trivial)⟩
theorem withdraw_state {by_ : Str} {n : Nat} {z : Oz} (ho : G.ob o = .ins 9 (ordsF o)) (hpl : G.ob (o + 3) = .lst (os.map fun z => .ref z.id)) (hn : os[n]? = some z) (hz : G.ob z.id = .ins 8 (ordF z.x (z.id + 1))) (hm : z.x.mr = by_) (hs : opnB z.x.st = false) : m_Orders_withdraw [.ref o, .str by_, .int ((n : Int) + 1)] G = .er 4 G := by
  apply eq_of_er
  unfold m_Orders_withdraw b_Orders_withdraw
  rw [w_fun]
  refine ⟨rfl, ?_⟩
  rw [q_Orders_withdraw_1, w_seq]; simp only [w_ok, w_c, w_v, w_op, w_un, w_b, w_nil, w_cons, w_call, w_tup, w_lst, w_dct0, w_fld, w_meth, w_make, w_mt, w_get2, w_tru, w_asB, w_not, w_and, w_or, w_chain, w_andV, w_orV, w_notV, w_if, w_isi, w_pNone, w_pSome, w_sl, w_nx, w_brk, w_cnt, w_drop, w_ret, w_retN, w_sif, w_raise, gmN, gmT, gmAll, w_asg, w_sfld, w_ssub, w_saug, w_for, w_iseq, w_irng1, w_irng2, slotQ_some, opQ_some, opD_some, getQ_some, opB_some, blQ_bl, tyQ_some, inQ_int, evQ_some, ghQ_some, List.getElem?_cons_zero, List.getElem?_cons_succ, List.set_cons_zero, List.set_cons_succ, List.map_cons, List.map_nil, List.cons_append, List.nil_append, List.replicate, List.length_cons, List.length_nil, o_add, o_sub, o_lt, o_le, o_gt, o_ge, o_les, o_eq, o_ne, o_eqs, o_nes, o_eqb, o_neb, o_is, o_isNot, o_iadd, o_neg, b_int, b_min, b_max, insQ_of ho, at_ok ho hpl hn]
  rw [q_Orders_withdraw_2, w_seq]; simp only [w_ok, w_c, w_v, w_op, w_un, w_b, w_nil, w_cons, w_call, w_tup, w_lst, w_dct0, w_fld, w_meth, w_make, w_mt, w_get2, w_tru, w_asB, w_not, w_and, w_or, w_chain, w_andV, w_orV, w_notV, w_if, w_isi, w_pNone, w_pSome, w_sl, w_nx, w_brk, w_cnt, w_drop, w_ret, w_retN, w_sif, w_raise, gmN, gmT, gmAll, w_asg, w_sfld, w_ssub, w_saug, w_for, w_iseq, w_irng1, w_irng2, slotQ_some, opQ_some, opD_some, getQ_some, opB_some, blQ_bl, tyQ_some, inQ_int, evQ_some, ghQ_some, List.getElem?_cons_zero, List.getElem?_cons_succ, List.set_cons_zero, List.set_cons_succ, List.map_cons, List.map_nil, List.cons_append, List.nil_append, List.replicate, List.length_cons, List.length_nil, o_add, o_sub, o_lt, o_le, o_gt, o_ge, o_les, o_eq, o_ne, o_eqs, o_nes, o_eqb, o_neb, o_is, o_isNot, o_iadd, o_neg, b_int, b_min, b_max, fz hz 0 _ rfl rfl, decide_eq_true hm, Bool.not_true, Bool.false_eq_true, if_false]
  rw [q_Orders_withdraw_3, w_seq]
  simp only [w_ok, w_c, w_v, w_op, w_un, w_b, w_nil, w_cons, w_call, w_tup, w_lst, w_dct0, w_fld, w_meth, w_make, w_mt, w_get2, w_tru, w_asB, w_not, w_and, w_or, w_chain, w_andV, w_orV, w_notV, w_if, w_isi, w_pNone, w_pSome, w_sl, w_nx, w_brk, w_cnt, w_drop, w_ret, w_retN, w_sif, w_raise, gmN, gmT, gmAll, w_asg, w_sfld, w_ssub, w_saug, w_for, w_iseq, w_irng1, w_irng2, slotQ_some, opQ_some, opD_some, getQ_some, opB_some, blQ_bl, tyQ_some, inQ_int, evQ_some, ghQ_some, List.getElem?_cons_zero, List.getElem?_cons_succ, List.set_cons_zero, List.set_cons_succ, List.map_cons, List.map_nil, List.cons_append, List.nil_append, List.replicate, List.length_cons, List.length_nil, fz hz 8 _ rfl rfl]
  refine ⟨by decide, ?_⟩
  simp only [notin_open, hs, Bool.not_false, if_true, w_ok, w_c, w_v, w_op, w_un, w_b, w_nil, w_cons, w_call, w_tup, w_lst, w_dct0, w_fld, w_meth, w_make, w_mt, w_get2, w_tru, w_asB, w_not, w_and, w_or, w_chain, w_andV, w_orV, w_notV, w_if, w_isi, w_pNone, w_pSome, w_sl, w_nx, w_brk, w_cnt, w_drop, w_ret, w_retN, w_sif, w_raise, gmN, gmT, gmAll, w_asg, w_sfld, w_ssub, w_saug, w_for, w_iseq, w_irng1, w_irng2, slotQ_some, opQ_some, opD_some, getQ_some, opB_some, blQ_bl, tyQ_some, inQ_int, evQ_some, ghQ_some, List.getElem?_cons_zero, List.getElem?_cons_succ, List.set_cons_zero, List.set_cons_succ, List.map_cons, List.map_nil, List.cons_append, List.nil_append, List.replicate, List.length_cons, List.length_nil]
  exact ⟨(by first | rfl | trivial), (by first | rfl | trivial)⟩
theorem withdraw_ok {by_ : Str} {n : Nat} {z : Oz} (ho : G.ob o = .ins 9 (ordsF o)) (hpl : G.ob (o + 3) = .lst (os.map fun z => .ref z.id)) (hn : os[n]? = some z) (hz : G.ob z.id = .ins 8 (ordF z.x (z.id + 1))) (h2 : G.ob (z.id + 1) = .lst (z.gs.map D.str)) (hm : z.x.mr = by_) (hs : opnB z.x.st = true) : DoneP (m_Orders_withdraw [.ref o, .str by_, .int ((n : Int) + 1)] G) G z "withdrawn" z.gs := by
  refine done_set h2 ?_
  apply eq_of_sat
  unfold m_Orders_withdraw b_Orders_withdraw
  rw [w_fun]
  refine ⟨rfl, ?_⟩
  rw [q_Orders_withdraw_1, w_seq]; simp only [w_ok, w_c, w_v, w_op, w_un, w_b, w_nil, w_cons, w_call, w_tup, w_lst, w_dct0, w_fld, w_meth, w_make, w_mt, w_get2, w_tru, w_asB, w_not, w_and, w_or, w_chain, w_andV, w_orV, w_notV, w_if, w_isi, w_pNone, w_pSome, w_sl, w_nx, w_brk, w_cnt, w_drop, w_ret, w_retN, w_sif, w_raise, gmN, gmT, gmAll, w_asg, w_sfld, w_ssub, w_saug, w_for, w_iseq, w_irng1, w_irng2, slotQ_some, opQ_some, opD_some, getQ_some, opB_some, blQ_bl, tyQ_some, inQ_int, evQ_some, ghQ_some, List.getElem?_cons_zero, List.getElem?_cons_succ, List.set_cons_zero, List.set_cons_succ, List.map_cons, List.map_nil, List.cons_append, List.nil_append, List.replicate, List.length_cons, List.length_nil, o_add, o_sub, o_lt, o_le, o_gt, o_ge, o_les, o_eq, o_ne, o_eqs, o_nes, o_eqb, o_neb, o_is, o_isNot, o_iadd, o_neg, b_int, b_min, b_max, insQ_of ho, at_ok ho hpl hn]
  rw [q_Orders_withdraw_2, w_seq]; simp only [w_ok, w_c, w_v, w_op, w_un, w_b, w_nil, w_cons, w_call, w_tup, w_lst, w_dct0, w_fld, w_meth, w_make, w_mt, w_get2, w_tru, w_asB, w_not, w_and, w_or, w_chain, w_andV, w_orV, w_notV, w_if, w_isi, w_pNone, w_pSome, w_sl, w_nx, w_brk, w_cnt, w_drop, w_ret, w_retN, w_sif, w_raise, gmN, gmT, gmAll, w_asg, w_sfld, w_ssub, w_saug, w_for, w_iseq, w_irng1, w_irng2, slotQ_some, opQ_some, opD_some, getQ_some, opB_some, blQ_bl, tyQ_some, inQ_int, evQ_some, ghQ_some, List.getElem?_cons_zero, List.getElem?_cons_succ, List.set_cons_zero, List.set_cons_succ, List.map_cons, List.map_nil, List.cons_append, List.nil_append, List.replicate, List.length_cons, List.length_nil, o_add, o_sub, o_lt, o_le, o_gt, o_ge, o_les, o_eq, o_ne, o_eqs, o_nes, o_eqb, o_neb, o_is, o_isNot, o_iadd, o_neg, b_int, b_min, b_max, fz hz 0 _ rfl rfl, decide_eq_true hm, Bool.not_true, Bool.false_eq_true, if_false]
  rw [q_Orders_withdraw_3, w_seq]
  simp only [w_ok, w_c, w_v, w_op, w_un, w_b, w_nil, w_cons, w_call, w_tup, w_lst, w_dct0, w_fld, w_meth, w_make, w_mt, w_get2, w_tru, w_asB, w_not, w_and, w_or, w_chain, w_andV, w_orV, w_notV, w_if, w_isi, w_pNone, w_pSome, w_sl, w_nx, w_brk, w_cnt, w_drop, w_ret, w_retN, w_sif, w_raise, gmN, gmT, gmAll, w_asg, w_sfld, w_ssub, w_saug, w_for, w_iseq, w_irng1, w_irng2, slotQ_some, opQ_some, opD_some, getQ_some, opB_some, blQ_bl, tyQ_some, inQ_int, evQ_some, ghQ_some, List.getElem?_cons_zero, List.getElem?_cons_succ, List.set_cons_zero, List.set_cons_succ, List.map_cons, List.map_nil, List.cons_append, List.nil_append, List.replicate, List.length_cons, List.length_nil, fz hz 8 _ rfl rfl]
  refine ⟨by decide, ?_⟩
  simp only [notin_open, hs, Bool.not_true, Bool.false_eq_true, if_false, w_ok, w_c, w_v, w_op, w_un, w_b, w_nil, w_cons, w_call, w_tup, w_lst, w_dct0, w_fld, w_meth, w_make, w_mt, w_get2, w_tru, w_asB, w_not, w_and, w_or, w_chain, w_andV, w_orV, w_notV, w_if, w_isi, w_pNone, w_pSome, w_sl, w_nx, w_brk, w_cnt, w_drop, w_ret, w_retN, w_sif, w_raise, gmN, gmT, gmAll, w_asg, w_sfld, w_ssub, w_saug, w_for, w_iseq, w_irng1, w_irng2, slotQ_some, opQ_some, opD_some, getQ_some, opB_some, blQ_bl, tyQ_some, inQ_int, evQ_some, ghQ_some, List.getElem?_cons_zero, List.getElem?_cons_succ, List.set_cons_zero, List.set_cons_succ, List.map_cons, List.map_nil, List.cons_append, List.nil_append, List.replicate, List.length_cons, List.length_nil]
  rw [q_Orders_withdraw_4, w_seq]; simp only [w_ok, w_c, w_v, w_op, w_un, w_b, w_nil, w_cons, w_call, w_tup, w_lst, w_dct0, w_fld, w_meth, w_make, w_mt, w_get2, w_tru, w_asB, w_not, w_and, w_or, w_chain, w_andV, w_orV, w_notV, w_if, w_isi, w_pNone, w_pSome, w_sl, w_nx, w_brk, w_cnt, w_drop, w_ret, w_retN, w_sif, w_raise, gmN, gmT, gmAll, w_asg, w_sfld, w_ssub, w_saug, w_for, w_iseq, w_irng1, w_irng2, slotQ_some, opQ_some, opD_some, getQ_some, opB_some, blQ_bl, tyQ_some, inQ_int, evQ_some, ghQ_some, List.getElem?_cons_zero, List.getElem?_cons_succ, List.set_cons_zero, List.set_cons_succ, List.map_cons, List.map_nil, List.cons_append, List.nil_append, List.replicate, List.length_cons, List.length_nil, o_add, o_sub, o_lt, o_le, o_gt, o_ge, o_les, o_eq, o_ne, o_eqs, o_nes, o_eqb, o_neb, o_is, o_isNot, o_iadd, o_neg, b_int, b_min, b_max, setst hz, f8st]
  exact ⟨(by first | rfl | trivial), (by first | rfl | trivial)⟩
theorem end_miss {n : Int} {s : Str} (ho : G.ob o = .ins 9 (ordsF o)) (hpl : G.ob (o + 3) = .lst (os.map fun z => .ref z.id)) (hn : ¬ (1 ≤ n ∧ n ≤ os.length)) : m_Orders_end [.ref o, .int n, .str s] G = .er 3 G := by
  apply eq_of_er
  unfold m_Orders_end b_Orders_end
  rw [w_fun]
  refine ⟨rfl, ?_⟩
  rw [q_Orders_end_1, w_seq]; simp only [w_ok, w_c, w_v, w_op, w_un, w_b, w_nil, w_cons, w_call, w_tup, w_lst, w_dct0, w_fld, w_meth, w_make, w_mt, w_get2, w_tru, w_asB, w_not, w_and, w_or, w_chain, w_andV, w_orV, w_notV, w_if, w_isi, w_pNone, w_pSome, w_sl, w_nx, w_brk, w_cnt, w_drop, w_ret, w_retN, w_sif, w_raise, gmN, gmT, gmAll, w_asg, w_sfld, w_ssub, w_saug, w_for, w_iseq, w_irng1, w_irng2, slotQ_some, opQ_some, opD_some, getQ_some, opB_some, blQ_bl, tyQ_some, inQ_int, evQ_some, ghQ_some, List.getElem?_cons_zero, List.getElem?_cons_succ, List.set_cons_zero, List.set_cons_succ, List.map_cons, List.map_nil, List.cons_append, List.nil_append, List.replicate, List.length_cons, List.length_nil, o_add, o_sub, o_lt, o_le, o_gt, o_ge, o_les, o_eq, o_ne, o_eqs, o_nes, o_eqb, o_neb, o_is, o_isNot, o_iadd, o_neg, b_int, b_min, b_max, insQ_of ho, at_er ho hpl hn]
  exact ⟨(by first | rfl | trivial), (by first | rfl | trivial)⟩
theorem end_state {n : Nat} {s : Str} {z : Oz} (ho : G.ob o = .ins 9 (ordsF o)) (hpl : G.ob (o + 3) = .lst (os.map fun z => .ref z.id)) (hn : os[n]? = some z) (hz : G.ob z.id = .ins 8 (ordF z.x (z.id + 1))) (hs : z.x.st ≠ "ready") : m_Orders_end [.ref o, .int ((n : Int) + 1), .str s] G = .er 4 G := by
  apply eq_of_er
  unfold m_Orders_end b_Orders_end
  rw [w_fun]
  refine ⟨rfl, ?_⟩
  rw [q_Orders_end_1, w_seq]; simp only [w_ok, w_c, w_v, w_op, w_un, w_b, w_nil, w_cons, w_call, w_tup, w_lst, w_dct0, w_fld, w_meth, w_make, w_mt, w_get2, w_tru, w_asB, w_not, w_and, w_or, w_chain, w_andV, w_orV, w_notV, w_if, w_isi, w_pNone, w_pSome, w_sl, w_nx, w_brk, w_cnt, w_drop, w_ret, w_retN, w_sif, w_raise, gmN, gmT, gmAll, w_asg, w_sfld, w_ssub, w_saug, w_for, w_iseq, w_irng1, w_irng2, slotQ_some, opQ_some, opD_some, getQ_some, opB_some, blQ_bl, tyQ_some, inQ_int, evQ_some, ghQ_some, List.getElem?_cons_zero, List.getElem?_cons_succ, List.set_cons_zero, List.set_cons_succ, List.map_cons, List.map_nil, List.cons_append, List.nil_append, List.replicate, List.length_cons, List.length_nil, o_add, o_sub, o_lt, o_le, o_gt, o_ge, o_les, o_eq, o_ne, o_eqs, o_nes, o_eqb, o_neb, o_is, o_isNot, o_iadd, o_neg, b_int, b_min, b_max, insQ_of ho, at_ok ho hpl hn]
  rw [q_Orders_end_2, w_seq]; simp only [w_ok, w_c, w_v, w_op, w_un, w_b, w_nil, w_cons, w_call, w_tup, w_lst, w_dct0, w_fld, w_meth, w_make, w_mt, w_get2, w_tru, w_asB, w_not, w_and, w_or, w_chain, w_andV, w_orV, w_notV, w_if, w_isi, w_pNone, w_pSome, w_sl, w_nx, w_brk, w_cnt, w_drop, w_ret, w_retN, w_sif, w_raise, gmN, gmT, gmAll, w_asg, w_sfld, w_ssub, w_saug, w_for, w_iseq, w_irng1, w_irng2, slotQ_some, opQ_some, opD_some, getQ_some, opB_some, blQ_bl, tyQ_some, inQ_int, evQ_some, ghQ_some, List.getElem?_cons_zero, List.getElem?_cons_succ, List.set_cons_zero, List.set_cons_succ, List.map_cons, List.map_nil, List.cons_append, List.nil_append, List.replicate, List.length_cons, List.length_nil, o_add, o_sub, o_lt, o_le, o_gt, o_ge, o_les, o_eq, o_ne, o_eqs, o_nes, o_eqb, o_neb, o_is, o_isNot, o_iadd, o_neg, b_int, b_min, b_max, fz hz 8 _ rfl rfl, decide_eq_false hs, Bool.not_false, if_true]
  exact ⟨(by first | rfl | trivial), (by first | rfl | trivial)⟩
theorem end_ok {n : Nat} {s : Str} {z : Oz} (ho : G.ob o = .ins 9 (ordsF o)) (hpl : G.ob (o + 3) = .lst (os.map fun z => .ref z.id)) (hn : os[n]? = some z) (hz : G.ob z.id = .ins 8 (ordF z.x (z.id + 1))) (h2 : G.ob (z.id + 1) = .lst (z.gs.map D.str)) (hs : z.x.st = "ready") : DoneP (m_Orders_end [.ref o, .int ((n : Int) + 1), .str s] G) G z s z.gs := by
  refine done_set h2 ?_
  apply eq_of_sat
  unfold m_Orders_end b_Orders_end
  rw [w_fun]
  refine ⟨rfl, ?_⟩
  rw [q_Orders_end_1, w_seq]; simp only [w_ok, w_c, w_v, w_op, w_un, w_b, w_nil, w_cons, w_call, w_tup, w_lst, w_dct0, w_fld, w_meth, w_make, w_mt, w_get2, w_tru, w_asB, w_not, w_and, w_or, w_chain, w_andV, w_orV, w_notV, w_if, w_isi, w_pNone, w_pSome, w_sl, w_nx, w_brk, w_cnt, w_drop, w_ret, w_retN, w_sif, w_raise, gmN, gmT, gmAll, w_asg, w_sfld, w_ssub, w_saug, w_for, w_iseq, w_irng1, w_irng2, slotQ_some, opQ_some, opD_some, getQ_some, opB_some, blQ_bl, tyQ_some, inQ_int, evQ_some, ghQ_some, List.getElem?_cons_zero, List.getElem?_cons_succ, List.set_cons_zero, List.set_cons_succ, List.map_cons, List.map_nil, List.cons_append, List.nil_append, List.replicate, List.length_cons, List.length_nil, o_add, o_sub, o_lt, o_le, o_gt, o_ge, o_les, o_eq, o_ne, o_eqs, o_nes, o_eqb, o_neb, o_is, o_isNot, o_iadd, o_neg, b_int, b_min, b_max, insQ_of ho, at_ok ho hpl hn]
  rw [q_Orders_end_2, w_seq]; simp only [w_ok, w_c, w_v, w_op, w_un, w_b, w_nil, w_cons, w_call, w_tup, w_lst, w_dct0, w_fld, w_meth, w_make, w_mt, w_get2, w_tru, w_asB, w_not, w_and, w_or, w_chain, w_andV, w_orV, w_notV, w_if, w_isi, w_pNone, w_pSome, w_sl, w_nx, w_brk, w_cnt, w_drop, w_ret, w_retN, w_sif, w_raise, gmN, gmT, gmAll, w_asg, w_sfld, w_ssub, w_saug, w_for, w_iseq, w_irng1, w_irng2, slotQ_some, opQ_some, opD_some, getQ_some, opB_some, blQ_bl, tyQ_some, inQ_int, evQ_some, ghQ_some, List.getElem?_cons_zero, List.getElem?_cons_succ, List.set_cons_zero, List.set_cons_succ, List.map_cons, List.map_nil, List.cons_append, List.nil_append, List.replicate, List.length_cons, List.length_nil, o_add, o_sub, o_lt, o_le, o_gt, o_ge, o_les, o_eq, o_ne, o_eqs, o_nes, o_eqb, o_neb, o_is, o_isNot, o_iadd, o_neg, b_int, b_min, b_max, fz hz 8 _ rfl rfl, decide_eq_true hs, Bool.not_true, Bool.false_eq_true, if_false]
  rw [q_Orders_end_3, w_seq]; simp only [w_ok, w_c, w_v, w_op, w_un, w_b, w_nil, w_cons, w_call, w_tup, w_lst, w_dct0, w_fld, w_meth, w_make, w_mt, w_get2, w_tru, w_asB, w_not, w_and, w_or, w_chain, w_andV, w_orV, w_notV, w_if, w_isi, w_pNone, w_pSome, w_sl, w_nx, w_brk, w_cnt, w_drop, w_ret, w_retN, w_sif, w_raise, gmN, gmT, gmAll, w_asg, w_sfld, w_ssub, w_saug, w_for, w_iseq, w_irng1, w_irng2, slotQ_some, opQ_some, opD_some, getQ_some, opB_some, blQ_bl, tyQ_some, inQ_int, evQ_some, ghQ_some, List.getElem?_cons_zero, List.getElem?_cons_succ, List.set_cons_zero, List.set_cons_succ, List.map_cons, List.map_nil, List.cons_append, List.nil_append, List.replicate, List.length_cons, List.length_nil, o_add, o_sub, o_lt, o_le, o_gt, o_ge, o_les, o_eq, o_ne, o_eqs, o_nes, o_eqb, o_neb, o_is, o_isNot, o_iadd, o_neg, b_int, b_min, b_max, setst hz, f8st]
  exact ⟨(by first | rfl | trivial), (by first | rfl | trivial)⟩
theorem complete_ok {n : Int} {d : D} {G' : Gh} (ho : G.ob o = .ins 9 (ordsF o)) (he : m_Orders_end [.ref o, .int n, .str "done"] G = .ok d G') : m_Orders_complete [.ref o, .int n] G = .ok d G' := by
  apply eq_of_sat
  unfold m_Orders_complete b_Orders_complete
  rw [w_fun]
  refine ⟨rfl, ?_⟩
  simp only [w_ok, w_c, w_v, w_op, w_un, w_b, w_nil, w_cons, w_call, w_tup, w_lst, w_dct0, w_fld, w_meth, w_make, w_mt, w_get2, w_tru, w_asB, w_not, w_and, w_or, w_chain, w_andV, w_orV, w_notV, w_if, w_isi, w_pNone, w_pSome, w_sl, w_nx, w_brk, w_cnt, w_drop, w_ret, w_retN, w_sif, w_raise, gmN, gmT, gmAll, w_asg, w_sfld, w_ssub, w_saug, w_for, w_iseq, w_irng1, w_irng2, slotQ_some, opQ_some, opD_some, getQ_some, opB_some, blQ_bl, tyQ_some, inQ_int, evQ_some, ghQ_some, List.getElem?_cons_zero, List.getElem?_cons_succ, List.set_cons_zero, List.set_cons_succ, List.map_cons, List.map_nil, List.cons_append, List.nil_append, List.replicate, List.length_cons, List.length_nil, o_add, o_sub, o_lt, o_le, o_gt, o_ge, o_les, o_eq, o_ne, o_eqs, o_nes, o_eqb, o_neb, o_is, o_isNot, o_iadd, o_neg, b_int, b_min, b_max, insQ_of ho, he]
  exact ⟨(by first | rfl | trivial), (by first | rfl | trivial)⟩
theorem complete_er {n : Int} {c : Nat} (ho : G.ob o = .ins 9 (ordsF o)) (he : m_Orders_end [.ref o, .int n, .str "done"] G = .er c G) : m_Orders_complete [.ref o, .int n] G = .er c G := by
  apply eq_of_er
  unfold m_Orders_complete b_Orders_complete
  rw [w_fun]
  refine ⟨rfl, ?_⟩
  simp only [w_ok, w_c, w_v, w_op, w_un, w_b, w_nil, w_cons, w_call, w_tup, w_lst, w_dct0, w_fld, w_meth, w_make, w_mt, w_get2, w_tru, w_asB, w_not, w_and, w_or, w_chain, w_andV, w_orV, w_notV, w_if, w_isi, w_pNone, w_pSome, w_sl, w_nx, w_brk, w_cnt, w_drop, w_ret, w_retN, w_sif, w_raise, gmN, gmT, gmAll, w_asg, w_sfld, w_ssub, w_saug, w_for, w_iseq, w_irng1, w_irng2, slotQ_some, opQ_some, opD_some, getQ_some, opB_some, blQ_bl, tyQ_some, inQ_int, evQ_some, ghQ_some, List.getElem?_cons_zero, List.getElem?_cons_succ, List.set_cons_zero, List.set_cons_succ, List.map_cons, List.map_nil, List.cons_append, List.nil_append, List.replicate, List.length_cons, List.length_nil, o_add, o_sub, o_lt, o_le, o_gt, o_ge, o_les, o_eq, o_ne, o_eqs, o_nes, o_eqb, o_neb, o_is, o_isNot, o_iadd, o_neg, b_int, b_min, b_max, insQ_of ho, he]
  exact ⟨(by first | rfl | trivial), (by first | rfl | trivial)⟩
theorem fail_ok {n : Int} {d : D} {G' : Gh} (ho : G.ob o = .ins 9 (ordsF o)) (he : m_Orders_end [.ref o, .int n, .str "failed"] G = .ok d G') : m_Orders_fail [.ref o, .int n] G = .ok d G' := by
  apply eq_of_sat
  unfold m_Orders_fail b_Orders_fail
  rw [w_fun]
  refine ⟨rfl, ?_⟩
  simp only [w_ok, w_c, w_v, w_op, w_un, w_b, w_nil, w_cons, w_call, w_tup, w_lst, w_dct0, w_fld, w_meth, w_make, w_mt, w_get2, w_tru, w_asB, w_not, w_and, w_or, w_chain, w_andV, w_orV, w_notV, w_if, w_isi, w_pNone, w_pSome, w_sl, w_nx, w_brk, w_cnt, w_drop, w_ret, w_retN, w_sif, w_raise, gmN, gmT, gmAll, w_asg, w_sfld, w_ssub, w_saug, w_for, w_iseq, w_irng1, w_irng2, slotQ_some, opQ_some, opD_some, getQ_some, opB_some, blQ_bl, tyQ_some, inQ_int, evQ_some, ghQ_some, List.getElem?_cons_zero, List.getElem?_cons_succ, List.set_cons_zero, List.set_cons_succ, List.map_cons, List.map_nil, List.cons_append, List.nil_append, List.replicate, List.length_cons, List.length_nil, o_add, o_sub, o_lt, o_le, o_gt, o_ge, o_les, o_eq, o_ne, o_eqs, o_nes, o_eqb, o_neb, o_is, o_isNot, o_iadd, o_neg, b_int, b_min, b_max, insQ_of ho, he]
  exact ⟨(by first | rfl | trivial), (by first | rfl | trivial)⟩
theorem fail_er {n : Int} {c : Nat} (ho : G.ob o = .ins 9 (ordsF o)) (he : m_Orders_end [.ref o, .int n, .str "failed"] G = .er c G) : m_Orders_fail [.ref o, .int n] G = .er c G := by
  apply eq_of_er
  unfold m_Orders_fail b_Orders_fail
  rw [w_fun]
  refine ⟨rfl, ?_⟩
  simp only [w_ok, w_c, w_v, w_op, w_un, w_b, w_nil, w_cons, w_call, w_tup, w_lst, w_dct0, w_fld, w_meth, w_make, w_mt, w_get2, w_tru, w_asB, w_not, w_and, w_or, w_chain, w_andV, w_orV, w_notV, w_if, w_isi, w_pNone, w_pSome, w_sl, w_nx, w_brk, w_cnt, w_drop, w_ret, w_retN, w_sif, w_raise, gmN, gmT, gmAll, w_asg, w_sfld, w_ssub, w_saug, w_for, w_iseq, w_irng1, w_irng2, slotQ_some, opQ_some, opD_some, getQ_some, opB_some, blQ_bl, tyQ_some, inQ_int, evQ_some, ghQ_some, List.getElem?_cons_zero, List.getElem?_cons_succ, List.set_cons_zero, List.set_cons_succ, List.map_cons, List.map_nil, List.cons_append, List.nil_append, List.replicate, List.length_cons, List.length_nil, o_add, o_sub, o_lt, o_le, o_gt, o_ge, o_les, o_eq, o_ne, o_eqs, o_nes, o_eqb, o_neb, o_is, o_isNot, o_iadd, o_neg, b_int, b_min, b_max, insQ_of ho, he]
  exact ⟨(by first | rfl | trivial), (by first | rfl | trivial)⟩
theorem call_grant_ok {by_ : Str} {n day : Int} {d : D} {G' : Gh} (ho : G.ob o = .ins 9 (ordsF o)) (he : m_Orders_grant [.ref o, .str by_, .int n] G = .ok d G') : m_law_call [.ref o, .str "grant", .str by_, .int n, .int day] G = .ok d G' := by
  apply eq_of_sat
  unfold m_law_call b_law_call
  rw [w_fun]
  refine ⟨rfl, ?_⟩
  rw [q_law_call_1, w_seq, w_tryAs]
  simp only [w_ok, w_c, w_v, w_op, w_un, w_b, w_nil, w_cons, w_call, w_tup, w_lst, w_dct0, w_fld, w_meth, w_make, w_mt, w_get2, w_tru, w_asB, w_not, w_and, w_or, w_chain, w_andV, w_orV, w_notV, w_if, w_isi, w_pNone, w_pSome, w_sl, w_nx, w_brk, w_cnt, w_drop, w_ret, w_retN, w_sif, w_raise, gmN, gmT, gmAll, w_asg, w_sfld, w_ssub, w_saug, w_for, w_iseq, w_irng1, w_irng2, slotQ_some, opQ_some, opD_some, getQ_some, opB_some, blQ_bl, tyQ_some, inQ_int, evQ_some, ghQ_some, List.getElem?_cons_zero, List.getElem?_cons_succ, List.set_cons_zero, List.set_cons_succ, List.map_cons, List.map_nil, List.cons_append, List.nil_append, List.replicate, List.length_cons, List.length_nil, o_add, o_sub, o_lt, o_le, o_gt, o_ge, o_les, o_eq, o_ne, o_eqs, o_nes, o_eqb, o_neb, o_is, o_isNot, o_iadd, o_neg, b_int, b_min, b_max, sd_grant_grant, sd_grant_reject, sd_grant_withdraw, sd_grant_complete, sd_grant_fail, sd_grant_expire, Bool.false_eq_true, if_false, if_true, insQ_of ho, he]
  exact ⟨(by first | rfl | trivial), (by first | rfl | trivial)⟩
theorem call_grant_er {by_ : Str} {n day : Int} {c : Nat} {z : Str} {G' : Gh} (ho : G.ob o = .ins 9 (ordsF o)) (he : m_Orders_grant [.ref o, .str by_, .int n] G = .er c G') (hc : ClsN c z) : m_law_call [.ref o, .str "grant", .str by_, .int n, .int day] G = .ok (.str z) (G'.push (.lst [.str z])) := by
  apply eq_of_sat
  unfold m_law_call b_law_call
  rw [w_fun]
  refine ⟨rfl, ?_⟩
  rw [q_law_call_1, w_seq, w_tryAs]
  have hs := clsN_sb hc
  simp only [w_ok, w_c, w_v, w_op, w_un, w_b, w_nil, w_cons, w_call, w_tup, w_lst, w_dct0, w_fld, w_meth, w_make, w_mt, w_get2, w_tru, w_asB, w_not, w_and, w_or, w_chain, w_andV, w_orV, w_notV, w_if, w_isi, w_pNone, w_pSome, w_sl, w_nx, w_brk, w_cnt, w_drop, w_ret, w_retN, w_sif, w_raise, gmN, gmT, gmAll, w_asg, w_sfld, w_ssub, w_saug, w_for, w_iseq, w_irng1, w_irng2, slotQ_some, opQ_some, opD_some, getQ_some, opB_some, blQ_bl, tyQ_some, inQ_int, evQ_some, ghQ_some, List.getElem?_cons_zero, List.getElem?_cons_succ, List.set_cons_zero, List.set_cons_succ, List.map_cons, List.map_nil, List.cons_append, List.nil_append, List.replicate, List.length_cons, List.length_nil, o_add, o_sub, o_lt, o_le, o_gt, o_ge, o_les, o_eq, o_ne, o_eqs, o_nes, o_eqb, o_neb, o_is, o_isNot, o_iadd, o_neg, b_int, b_min, b_max, sd_grant_grant, sd_grant_reject, sd_grant_withdraw, sd_grant_complete, sd_grant_fail, sd_grant_expire, Bool.false_eq_true, if_false, if_true, insQ_of ho, he]
  show (match sb_0 c with | some true => _ | some false => _ | none => False)
  rw [hs]
  refine ⟨by decide, ?_⟩
  unfold h0_law_call_1 h_law_call_1
  have : (sRet (eCall (m_law_class 0 c) (aCons (eVar 6) aNil)) ([some (.ref o), some (.str "grant"), some (.str by_), some (.int n), some (.int day), none, some (.exc 0)] : Ev) G') = .rt (.str z) (G'.push (.lst [.str z])) := by
    unfold sRet eCall aCons aNil eVar
    simp [Rs.bind, exS, class_eq c z hc]
  show Ro.sat (Ro.clr 6 (sRet (eCall (m_law_class 0 c) (aCons (eVar 6) aNil)) ([some (.ref o), some (.str "grant"), some (.str by_), some (.int n), some (.int day), none, some (.exc 0)] : Ev) G')) _
  rw [this]
  exact ⟨rfl, rfl⟩
theorem call_reject_ok {by_ : Str} {n day : Int} {d : D} {G' : Gh} (ho : G.ob o = .ins 9 (ordsF o)) (he : m_Orders_reject [.ref o, .str by_, .int n] G = .ok d G') : m_law_call [.ref o, .str "reject", .str by_, .int n, .int day] G = .ok d G' := by
  apply eq_of_sat
  unfold m_law_call b_law_call
  rw [w_fun]
  refine ⟨rfl, ?_⟩
  rw [q_law_call_1, w_seq, w_tryAs]
  simp only [w_ok, w_c, w_v, w_op, w_un, w_b, w_nil, w_cons, w_call, w_tup, w_lst, w_dct0, w_fld, w_meth, w_make, w_mt, w_get2, w_tru, w_asB, w_not, w_and, w_or, w_chain, w_andV, w_orV, w_notV, w_if, w_isi, w_pNone, w_pSome, w_sl, w_nx, w_brk, w_cnt, w_drop, w_ret, w_retN, w_sif, w_raise, gmN, gmT, gmAll, w_asg, w_sfld, w_ssub, w_saug, w_for, w_iseq, w_irng1, w_irng2, slotQ_some, opQ_some, opD_some, getQ_some, opB_some, blQ_bl, tyQ_some, inQ_int, evQ_some, ghQ_some, List.getElem?_cons_zero, List.getElem?_cons_succ, List.set_cons_zero, List.set_cons_succ, List.map_cons, List.map_nil, List.cons_append, List.nil_append, List.replicate, List.length_cons, List.length_nil, o_add, o_sub, o_lt, o_le, o_gt, o_ge, o_les, o_eq, o_ne, o_eqs, o_nes, o_eqb, o_neb, o_is, o_isNot, o_iadd, o_neg, b_int, b_min, b_max, sd_reject_grant, sd_reject_reject, sd_reject_withdraw, sd_reject_complete, sd_reject_fail, sd_reject_expire, Bool.false_eq_true, if_false, if_true, insQ_of ho, he]
  exact ⟨(by first | rfl | trivial), (by first | rfl | trivial)⟩
theorem call_reject_er {by_ : Str} {n day : Int} {c : Nat} {z : Str} {G' : Gh} (ho : G.ob o = .ins 9 (ordsF o)) (he : m_Orders_reject [.ref o, .str by_, .int n] G = .er c G') (hc : ClsN c z) : m_law_call [.ref o, .str "reject", .str by_, .int n, .int day] G = .ok (.str z) (G'.push (.lst [.str z])) := by
  apply eq_of_sat
  unfold m_law_call b_law_call
  rw [w_fun]
  refine ⟨rfl, ?_⟩
  rw [q_law_call_1, w_seq, w_tryAs]
  have hs := clsN_sb hc
  simp only [w_ok, w_c, w_v, w_op, w_un, w_b, w_nil, w_cons, w_call, w_tup, w_lst, w_dct0, w_fld, w_meth, w_make, w_mt, w_get2, w_tru, w_asB, w_not, w_and, w_or, w_chain, w_andV, w_orV, w_notV, w_if, w_isi, w_pNone, w_pSome, w_sl, w_nx, w_brk, w_cnt, w_drop, w_ret, w_retN, w_sif, w_raise, gmN, gmT, gmAll, w_asg, w_sfld, w_ssub, w_saug, w_for, w_iseq, w_irng1, w_irng2, slotQ_some, opQ_some, opD_some, getQ_some, opB_some, blQ_bl, tyQ_some, inQ_int, evQ_some, ghQ_some, List.getElem?_cons_zero, List.getElem?_cons_succ, List.set_cons_zero, List.set_cons_succ, List.map_cons, List.map_nil, List.cons_append, List.nil_append, List.replicate, List.length_cons, List.length_nil, o_add, o_sub, o_lt, o_le, o_gt, o_ge, o_les, o_eq, o_ne, o_eqs, o_nes, o_eqb, o_neb, o_is, o_isNot, o_iadd, o_neg, b_int, b_min, b_max, sd_reject_grant, sd_reject_reject, sd_reject_withdraw, sd_reject_complete, sd_reject_fail, sd_reject_expire, Bool.false_eq_true, if_false, if_true, insQ_of ho, he]
  show (match sb_0 c with | some true => _ | some false => _ | none => False)
  rw [hs]
  refine ⟨by decide, ?_⟩
  unfold h0_law_call_1 h_law_call_1
  have : (sRet (eCall (m_law_class 0 c) (aCons (eVar 6) aNil)) ([some (.ref o), some (.str "reject"), some (.str by_), some (.int n), some (.int day), none, some (.exc 0)] : Ev) G') = .rt (.str z) (G'.push (.lst [.str z])) := by
    unfold sRet eCall aCons aNil eVar
    simp [Rs.bind, exS, class_eq c z hc]
  show Ro.sat (Ro.clr 6 (sRet (eCall (m_law_class 0 c) (aCons (eVar 6) aNil)) ([some (.ref o), some (.str "reject"), some (.str by_), some (.int n), some (.int day), none, some (.exc 0)] : Ev) G')) _
  rw [this]
  exact ⟨rfl, rfl⟩
theorem call_withdraw_ok {by_ : Str} {n day : Int} {d : D} {G' : Gh} (ho : G.ob o = .ins 9 (ordsF o)) (he : m_Orders_withdraw [.ref o, .str by_, .int n] G = .ok d G') : m_law_call [.ref o, .str "withdraw", .str by_, .int n, .int day] G = .ok d G' := by
  apply eq_of_sat
  unfold m_law_call b_law_call
  rw [w_fun]
  refine ⟨rfl, ?_⟩
  rw [q_law_call_1, w_seq, w_tryAs]
  simp only [w_ok, w_c, w_v, w_op, w_un, w_b, w_nil, w_cons, w_call, w_tup, w_lst, w_dct0, w_fld, w_meth, w_make, w_mt, w_get2, w_tru, w_asB, w_not, w_and, w_or, w_chain, w_andV, w_orV, w_notV, w_if, w_isi, w_pNone, w_pSome, w_sl, w_nx, w_brk, w_cnt, w_drop, w_ret, w_retN, w_sif, w_raise, gmN, gmT, gmAll, w_asg, w_sfld, w_ssub, w_saug, w_for, w_iseq, w_irng1, w_irng2, slotQ_some, opQ_some, opD_some, getQ_some, opB_some, blQ_bl, tyQ_some, inQ_int, evQ_some, ghQ_some, List.getElem?_cons_zero, List.getElem?_cons_succ, List.set_cons_zero, List.set_cons_succ, List.map_cons, List.map_nil, List.cons_append, List.nil_append, List.replicate, List.length_cons, List.length_nil, o_add, o_sub, o_lt, o_le, o_gt, o_ge, o_les, o_eq, o_ne, o_eqs, o_nes, o_eqb, o_neb, o_is, o_isNot, o_iadd, o_neg, b_int, b_min, b_max, sd_withdraw_grant, sd_withdraw_reject, sd_withdraw_withdraw, sd_withdraw_complete, sd_withdraw_fail, sd_withdraw_expire, Bool.false_eq_true, if_false, if_true, insQ_of ho, he]
  exact ⟨(by first | rfl | trivial), (by first | rfl | trivial)⟩
theorem call_withdraw_er {by_ : Str} {n day : Int} {c : Nat} {z : Str} {G' : Gh} (ho : G.ob o = .ins 9 (ordsF o)) (he : m_Orders_withdraw [.ref o, .str by_, .int n] G = .er c G') (hc : ClsN c z) : m_law_call [.ref o, .str "withdraw", .str by_, .int n, .int day] G = .ok (.str z) (G'.push (.lst [.str z])) := by
  apply eq_of_sat
  unfold m_law_call b_law_call
  rw [w_fun]
  refine ⟨rfl, ?_⟩
  rw [q_law_call_1, w_seq, w_tryAs]
  have hs := clsN_sb hc
  simp only [w_ok, w_c, w_v, w_op, w_un, w_b, w_nil, w_cons, w_call, w_tup, w_lst, w_dct0, w_fld, w_meth, w_make, w_mt, w_get2, w_tru, w_asB, w_not, w_and, w_or, w_chain, w_andV, w_orV, w_notV, w_if, w_isi, w_pNone, w_pSome, w_sl, w_nx, w_brk, w_cnt, w_drop, w_ret, w_retN, w_sif, w_raise, gmN, gmT, gmAll, w_asg, w_sfld, w_ssub, w_saug, w_for, w_iseq, w_irng1, w_irng2, slotQ_some, opQ_some, opD_some, getQ_some, opB_some, blQ_bl, tyQ_some, inQ_int, evQ_some, ghQ_some, List.getElem?_cons_zero, List.getElem?_cons_succ, List.set_cons_zero, List.set_cons_succ, List.map_cons, List.map_nil, List.cons_append, List.nil_append, List.replicate, List.length_cons, List.length_nil, o_add, o_sub, o_lt, o_le, o_gt, o_ge, o_les, o_eq, o_ne, o_eqs, o_nes, o_eqb, o_neb, o_is, o_isNot, o_iadd, o_neg, b_int, b_min, b_max, sd_withdraw_grant, sd_withdraw_reject, sd_withdraw_withdraw, sd_withdraw_complete, sd_withdraw_fail, sd_withdraw_expire, Bool.false_eq_true, if_false, if_true, insQ_of ho, he]
  show (match sb_0 c with | some true => _ | some false => _ | none => False)
  rw [hs]
  refine ⟨by decide, ?_⟩
  unfold h0_law_call_1 h_law_call_1
  have : (sRet (eCall (m_law_class 0 c) (aCons (eVar 6) aNil)) ([some (.ref o), some (.str "withdraw"), some (.str by_), some (.int n), some (.int day), none, some (.exc 0)] : Ev) G') = .rt (.str z) (G'.push (.lst [.str z])) := by
    unfold sRet eCall aCons aNil eVar
    simp [Rs.bind, exS, class_eq c z hc]
  show Ro.sat (Ro.clr 6 (sRet (eCall (m_law_class 0 c) (aCons (eVar 6) aNil)) ([some (.ref o), some (.str "withdraw"), some (.str by_), some (.int n), some (.int day), none, some (.exc 0)] : Ev) G')) _
  rw [this]
  exact ⟨rfl, rfl⟩
theorem call_complete_ok {by_ : Str} {n day : Int} {d : D} {G' : Gh} (ho : G.ob o = .ins 9 (ordsF o)) (he : m_Orders_complete [.ref o, .int n] G = .ok d G') : m_law_call [.ref o, .str "complete", .str by_, .int n, .int day] G = .ok d G' := by
  apply eq_of_sat
  unfold m_law_call b_law_call
  rw [w_fun]
  refine ⟨rfl, ?_⟩
  rw [q_law_call_1, w_seq, w_tryAs]
  simp only [w_ok, w_c, w_v, w_op, w_un, w_b, w_nil, w_cons, w_call, w_tup, w_lst, w_dct0, w_fld, w_meth, w_make, w_mt, w_get2, w_tru, w_asB, w_not, w_and, w_or, w_chain, w_andV, w_orV, w_notV, w_if, w_isi, w_pNone, w_pSome, w_sl, w_nx, w_brk, w_cnt, w_drop, w_ret, w_retN, w_sif, w_raise, gmN, gmT, gmAll, w_asg, w_sfld, w_ssub, w_saug, w_for, w_iseq, w_irng1, w_irng2, slotQ_some, opQ_some, opD_some, getQ_some, opB_some, blQ_bl, tyQ_some, inQ_int, evQ_some, ghQ_some, List.getElem?_cons_zero, List.getElem?_cons_succ, List.set_cons_zero, List.set_cons_succ, List.map_cons, List.map_nil, List.cons_append, List.nil_append, List.replicate, List.length_cons, List.length_nil, o_add, o_sub, o_lt, o_le, o_gt, o_ge, o_les, o_eq, o_ne, o_eqs, o_nes, o_eqb, o_neb, o_is, o_isNot, o_iadd, o_neg, b_int, b_min, b_max, sd_complete_grant, sd_complete_reject, sd_complete_withdraw, sd_complete_complete, sd_complete_fail, sd_complete_expire, Bool.false_eq_true, if_false, if_true, insQ_of ho, he]
  exact ⟨(by first | rfl | trivial), (by first | rfl | trivial)⟩
theorem call_complete_er {by_ : Str} {n day : Int} {c : Nat} {z : Str} {G' : Gh} (ho : G.ob o = .ins 9 (ordsF o)) (he : m_Orders_complete [.ref o, .int n] G = .er c G') (hc : ClsN c z) : m_law_call [.ref o, .str "complete", .str by_, .int n, .int day] G = .ok (.str z) (G'.push (.lst [.str z])) := by
  apply eq_of_sat
  unfold m_law_call b_law_call
  rw [w_fun]
  refine ⟨rfl, ?_⟩
  rw [q_law_call_1, w_seq, w_tryAs]
  have hs := clsN_sb hc
  simp only [w_ok, w_c, w_v, w_op, w_un, w_b, w_nil, w_cons, w_call, w_tup, w_lst, w_dct0, w_fld, w_meth, w_make, w_mt, w_get2, w_tru, w_asB, w_not, w_and, w_or, w_chain, w_andV, w_orV, w_notV, w_if, w_isi, w_pNone, w_pSome, w_sl, w_nx, w_brk, w_cnt, w_drop, w_ret, w_retN, w_sif, w_raise, gmN, gmT, gmAll, w_asg, w_sfld, w_ssub, w_saug, w_for, w_iseq, w_irng1, w_irng2, slotQ_some, opQ_some, opD_some, getQ_some, opB_some, blQ_bl, tyQ_some, inQ_int, evQ_some, ghQ_some, List.getElem?_cons_zero, List.getElem?_cons_succ, List.set_cons_zero, List.set_cons_succ, List.map_cons, List.map_nil, List.cons_append, List.nil_append, List.replicate, List.length_cons, List.length_nil, o_add, o_sub, o_lt, o_le, o_gt, o_ge, o_les, o_eq, o_ne, o_eqs, o_nes, o_eqb, o_neb, o_is, o_isNot, o_iadd, o_neg, b_int, b_min, b_max, sd_complete_grant, sd_complete_reject, sd_complete_withdraw, sd_complete_complete, sd_complete_fail, sd_complete_expire, Bool.false_eq_true, if_false, if_true, insQ_of ho, he]
  show (match sb_0 c with | some true => _ | some false => _ | none => False)
  rw [hs]
  refine ⟨by decide, ?_⟩
  unfold h0_law_call_1 h_law_call_1
  have : (sRet (eCall (m_law_class 0 c) (aCons (eVar 6) aNil)) ([some (.ref o), some (.str "complete"), some (.str by_), some (.int n), some (.int day), none, some (.exc 0)] : Ev) G') = .rt (.str z) (G'.push (.lst [.str z])) := by
    unfold sRet eCall aCons aNil eVar
    simp [Rs.bind, exS, class_eq c z hc]
  show Ro.sat (Ro.clr 6 (sRet (eCall (m_law_class 0 c) (aCons (eVar 6) aNil)) ([some (.ref o), some (.str "complete"), some (.str by_), some (.int n), some (.int day), none, some (.exc 0)] : Ev) G')) _
  rw [this]
  exact ⟨rfl, rfl⟩
theorem call_fail_ok {by_ : Str} {n day : Int} {d : D} {G' : Gh} (ho : G.ob o = .ins 9 (ordsF o)) (he : m_Orders_fail [.ref o, .int n] G = .ok d G') : m_law_call [.ref o, .str "fail", .str by_, .int n, .int day] G = .ok d G' := by
  apply eq_of_sat
  unfold m_law_call b_law_call
  rw [w_fun]
  refine ⟨rfl, ?_⟩
  rw [q_law_call_1, w_seq, w_tryAs]
  simp only [w_ok, w_c, w_v, w_op, w_un, w_b, w_nil, w_cons, w_call, w_tup, w_lst, w_dct0, w_fld, w_meth, w_make, w_mt, w_get2, w_tru, w_asB, w_not, w_and, w_or, w_chain, w_andV, w_orV, w_notV, w_if, w_isi, w_pNone, w_pSome, w_sl, w_nx, w_brk, w_cnt, w_drop, w_ret, w_retN, w_sif, w_raise, gmN, gmT, gmAll, w_asg, w_sfld, w_ssub, w_saug, w_for, w_iseq, w_irng1, w_irng2, slotQ_some, opQ_some, opD_some, getQ_some, opB_some, blQ_bl, tyQ_some, inQ_int, evQ_some, ghQ_some, List.getElem?_cons_zero, List.getElem?_cons_succ, List.set_cons_zero, List.set_cons_succ, List.map_cons, List.map_nil, List.cons_append, List.nil_append, List.replicate, List.length_cons, List.length_nil, o_add, o_sub, o_lt, o_le, o_gt, o_ge, o_les, o_eq, o_ne, o_eqs, o_nes, o_eqb, o_neb, o_is, o_isNot, o_iadd, o_neg, b_int, b_min, b_max, sd_fail_grant, sd_fail_reject, sd_fail_withdraw, sd_fail_complete, sd_fail_fail, sd_fail_expire, Bool.false_eq_true, if_false, if_true, insQ_of ho, he]
  exact ⟨(by first | rfl | trivial), (by first | rfl | trivial)⟩
theorem call_fail_er {by_ : Str} {n day : Int} {c : Nat} {z : Str} {G' : Gh} (ho : G.ob o = .ins 9 (ordsF o)) (he : m_Orders_fail [.ref o, .int n] G = .er c G') (hc : ClsN c z) : m_law_call [.ref o, .str "fail", .str by_, .int n, .int day] G = .ok (.str z) (G'.push (.lst [.str z])) := by
  apply eq_of_sat
  unfold m_law_call b_law_call
  rw [w_fun]
  refine ⟨rfl, ?_⟩
  rw [q_law_call_1, w_seq, w_tryAs]
  have hs := clsN_sb hc
  simp only [w_ok, w_c, w_v, w_op, w_un, w_b, w_nil, w_cons, w_call, w_tup, w_lst, w_dct0, w_fld, w_meth, w_make, w_mt, w_get2, w_tru, w_asB, w_not, w_and, w_or, w_chain, w_andV, w_orV, w_notV, w_if, w_isi, w_pNone, w_pSome, w_sl, w_nx, w_brk, w_cnt, w_drop, w_ret, w_retN, w_sif, w_raise, gmN, gmT, gmAll, w_asg, w_sfld, w_ssub, w_saug, w_for, w_iseq, w_irng1, w_irng2, slotQ_some, opQ_some, opD_some, getQ_some, opB_some, blQ_bl, tyQ_some, inQ_int, evQ_some, ghQ_some, List.getElem?_cons_zero, List.getElem?_cons_succ, List.set_cons_zero, List.set_cons_succ, List.map_cons, List.map_nil, List.cons_append, List.nil_append, List.replicate, List.length_cons, List.length_nil, o_add, o_sub, o_lt, o_le, o_gt, o_ge, o_les, o_eq, o_ne, o_eqs, o_nes, o_eqb, o_neb, o_is, o_isNot, o_iadd, o_neg, b_int, b_min, b_max, sd_fail_grant, sd_fail_reject, sd_fail_withdraw, sd_fail_complete, sd_fail_fail, sd_fail_expire, Bool.false_eq_true, if_false, if_true, insQ_of ho, he]
  show (match sb_0 c with | some true => _ | some false => _ | none => False)
  rw [hs]
  refine ⟨by decide, ?_⟩
  unfold h0_law_call_1 h_law_call_1
  have : (sRet (eCall (m_law_class 0 c) (aCons (eVar 6) aNil)) ([some (.ref o), some (.str "fail"), some (.str by_), some (.int n), some (.int day), none, some (.exc 0)] : Ev) G') = .rt (.str z) (G'.push (.lst [.str z])) := by
    unfold sRet eCall aCons aNil eVar
    simp [Rs.bind, exS, class_eq c z hc]
  show Ro.sat (Ro.clr 6 (sRet (eCall (m_law_class 0 c) (aCons (eVar 6) aNil)) ([some (.ref o), some (.str "fail"), some (.str by_), some (.int n), some (.int day), none, some (.exc 0)] : Ev) G')) _
  rw [this]
  exact ⟨rfl, rfl⟩
theorem call_expire_ok {by_ : Str} {n day : Int} {d : D} {G' : Gh} (ho : G.ob o = .ins 9 (ordsF o)) (he : m_Orders_expire [.ref o, .int day] G = .ok d G') : m_law_call [.ref o, .str "expire", .str by_, .int n, .int day] G = .ok d G' := by
  apply eq_of_sat
  unfold m_law_call b_law_call
  rw [w_fun]
  refine ⟨rfl, ?_⟩
  rw [q_law_call_1, w_seq, w_tryAs]
  simp only [w_ok, w_c, w_v, w_op, w_un, w_b, w_nil, w_cons, w_call, w_tup, w_lst, w_dct0, w_fld, w_meth, w_make, w_mt, w_get2, w_tru, w_asB, w_not, w_and, w_or, w_chain, w_andV, w_orV, w_notV, w_if, w_isi, w_pNone, w_pSome, w_sl, w_nx, w_brk, w_cnt, w_drop, w_ret, w_retN, w_sif, w_raise, gmN, gmT, gmAll, w_asg, w_sfld, w_ssub, w_saug, w_for, w_iseq, w_irng1, w_irng2, slotQ_some, opQ_some, opD_some, getQ_some, opB_some, blQ_bl, tyQ_some, inQ_int, evQ_some, ghQ_some, List.getElem?_cons_zero, List.getElem?_cons_succ, List.set_cons_zero, List.set_cons_succ, List.map_cons, List.map_nil, List.cons_append, List.nil_append, List.replicate, List.length_cons, List.length_nil, o_add, o_sub, o_lt, o_le, o_gt, o_ge, o_les, o_eq, o_ne, o_eqs, o_nes, o_eqb, o_neb, o_is, o_isNot, o_iadd, o_neg, b_int, b_min, b_max, sd_expire_grant, sd_expire_reject, sd_expire_withdraw, sd_expire_complete, sd_expire_fail, sd_expire_expire, Bool.false_eq_true, if_false, if_true, insQ_of ho, he]
  exact ⟨(by first | rfl | trivial), (by first | rfl | trivial)⟩
end
end Lw
namespace Lw
open PySem PySem.Spec PyProof.Rows L2 Mi
/-! k50: what the law says of a call -/
def grB (w : Str) : Bool := [D.str "grant", .str "reject"].any fun y => eqF y (.str w)
theorem in_gr (w : Str) (G : Gh) : opIn (.str w) (.tup [.str "grant", .str "reject"]) G = some (.bl (grB w), G) := rfl
theorem gr_grant : grB "grant" = true := by decide +kernel
theorem gr_reject : grB "reject" = true := by decide +kernel
theorem gr_withdraw : grB "withdraw" = false := by decide +kernel
theorem gr_complete : grB "complete" = false := by decide +kernel
theorem gr_fail : grB "fail" = false := by decide +kernel
section
variable {G : Gh} {du rl : Nat} {kro : List (Key × D)} {os : List Oz} {by_ w : Str} {n day : Int}
abbrev dEnv (du rl : Nat) (w by_ : Str) (n day : Int) (y8 : Option D) : Ev := [some (.ref du), some (.str w), some (.str by_), some (.int n), some (.int day), some (.ref rl), none, none, y8]
abbrev dPq (Q : D → Gh → Prop) (E : Nat → Gh → Prop) : Pq := ⟨fun _ G1 => Q .non G1, Q, fun c _ G1 => E c G1, fun _ _ => False, fun _ _ => False⟩
theorem due_5 {Q : D → Gh → Prop} {E : Nat → Gh → Prop} (h1 : decide (w = "expire") = false) (h : (q_law_due_5 (dEnv du rl w by_ n day none) G).sat (dPq Q E)) : (m_law_due [.ref du, .str w, .str by_, .int n, .int day, .ref rl] G).sat Q E := by
  unfold m_law_due b_law_due
  rw [w_fun]
  refine ⟨rfl, ?_⟩
  rw [q_law_due_4, w_seq]; simp only [w_ok, w_c, w_v, w_op, w_un, w_b, w_nil, w_cons, w_call, w_tup, w_lst, w_dct0, w_fld, w_meth, w_make, w_mt, w_get2, w_tru, w_asB, w_not, w_and, w_or, w_chain, w_andV, w_orV, w_notV, w_if, w_isi, w_pNone, w_pSome, w_sl, w_nx, w_brk, w_cnt, w_drop, w_ret, w_retN, w_sif, w_raise, gmN, gmT, gmAll, w_asg, w_sfld, w_ssub, w_saug, w_for, w_iseq, w_irng1, w_irng2, slotQ_some, opQ_some, opD_some, getQ_some, opB_some, blQ_bl, tyQ_some, inQ_int, evQ_some, ghQ_some, List.getElem?_cons_zero, List.getElem?_cons_succ, List.set_cons_zero, List.set_cons_succ, List.map_cons, List.map_nil, List.cons_append, List.nil_append, List.replicate, List.length_cons, List.length_nil, o_add, o_sub, o_lt, o_le, o_gt, o_ge, o_les, o_eq, o_ne, o_eqs, o_nes, o_eqb, o_neb, o_is, o_isNot, o_iadd, o_neg, b_int, b_min, b_max, h1, Bool.false_eq_true, if_false]
  exact h
theorem due_no (hrl : G.ob rl = .dct kro) (h1 : decide (w = "expire") = false) (h2 : grB w = true) (hb : valD kro (.inr by_) = none) : m_law_due [.ref du, .str w, .str by_, .int n, .int day, .ref rl] G = .ok (.str "NotAllowed") G := by
  apply eq_of_sat
  refine due_5 h1 ?_
  rw [q_law_due_5, w_seq]
  unfold dEnv
  simp only [w_ok, w_c, w_v, w_op, w_un, w_b, w_nil, w_cons, w_call, w_tup, w_lst, w_dct0, w_fld, w_meth, w_make, w_mt, w_get2, w_tru, w_asB, w_not, w_and, w_or, w_chain, w_andV, w_orV, w_notV, w_if, w_isi, w_pNone, w_pSome, w_sl, w_nx, w_brk, w_cnt, w_drop, w_ret, w_retN, w_sif, w_raise, gmN, gmT, gmAll, w_asg, w_sfld, w_ssub, w_saug, w_for, w_iseq, w_irng1, w_irng2, slotQ_some, opQ_some, opD_some, getQ_some, opB_some, blQ_bl, tyQ_some, inQ_int, evQ_some, ghQ_some, List.getElem?_cons_zero, List.getElem?_cons_succ, List.set_cons_zero, List.set_cons_succ, List.map_cons, List.map_nil, List.cons_append, List.nil_append, List.replicate, List.length_cons, List.length_nil]
  refine ⟨by decide, ?_⟩
  simp only [in_gr, h2, if_true, nin_dct by_ hrl, hb, Option.isSome_none, Bool.not_false, w_ok, w_c, w_v, w_op, w_un, w_b, w_nil, w_cons, w_call, w_tup, w_lst, w_dct0, w_fld, w_meth, w_make, w_mt, w_get2, w_tru, w_asB, w_not, w_and, w_or, w_chain, w_andV, w_orV, w_notV, w_if, w_isi, w_pNone, w_pSome, w_sl, w_nx, w_brk, w_cnt, w_drop, w_ret, w_retN, w_sif, w_raise, gmN, gmT, gmAll, w_asg, w_sfld, w_ssub, w_saug, w_for, w_iseq, w_irng1, w_irng2, slotQ_some, opQ_some, opD_some, getQ_some, opB_some, blQ_bl, tyQ_some, inQ_int, evQ_some, ghQ_some, List.getElem?_cons_zero, List.getElem?_cons_succ, List.set_cons_zero, List.set_cons_succ, List.map_cons, List.map_nil, List.cons_append, List.nil_append, List.replicate, List.length_cons, List.length_nil]
  exact ⟨(by first | rfl | trivial), (by first | rfl | trivial)⟩
theorem due_6 {Q : D → Gh → Prop} {E : Nat → Gh → Prop} (hrl : G.ob rl = .dct kro) (h1 : decide (w = "expire") = false) (hb : grB w = true → (valD kro (.inr by_)).isSome = true) (h : (q_law_due_6 (dEnv du rl w by_ n day none) G).sat (dPq Q E)) : (m_law_due [.ref du, .str w, .str by_, .int n, .int day, .ref rl] G).sat Q E := by
  refine due_5 h1 ?_
  rw [q_law_due_5, w_seq]
  unfold dEnv
  simp only [w_ok, w_c, w_v, w_op, w_un, w_b, w_nil, w_cons, w_call, w_tup, w_lst, w_dct0, w_fld, w_meth, w_make, w_mt, w_get2, w_tru, w_asB, w_not, w_and, w_or, w_chain, w_andV, w_orV, w_notV, w_if, w_isi, w_pNone, w_pSome, w_sl, w_nx, w_brk, w_cnt, w_drop, w_ret, w_retN, w_sif, w_raise, gmN, gmT, gmAll, w_asg, w_sfld, w_ssub, w_saug, w_for, w_iseq, w_irng1, w_irng2, slotQ_some, opQ_some, opD_some, getQ_some, opB_some, blQ_bl, tyQ_some, inQ_int, evQ_some, ghQ_some, List.getElem?_cons_zero, List.getElem?_cons_succ, List.set_cons_zero, List.set_cons_succ, List.map_cons, List.map_nil, List.cons_append, List.nil_append, List.replicate, List.length_cons, List.length_nil]
  refine ⟨by decide, ?_⟩
  cases h2 : grB w with
  | false =>
    simp only [in_gr, h2, Bool.false_eq_true, if_false, w_ok, w_c, w_v, w_op, w_un, w_b, w_nil, w_cons, w_call, w_tup, w_lst, w_dct0, w_fld, w_meth, w_make, w_mt, w_get2, w_tru, w_asB, w_not, w_and, w_or, w_chain, w_andV, w_orV, w_notV, w_if, w_isi, w_pNone, w_pSome, w_sl, w_nx, w_brk, w_cnt, w_drop, w_ret, w_retN, w_sif, w_raise, gmN, gmT, gmAll, w_asg, w_sfld, w_ssub, w_saug, w_for, w_iseq, w_irng1, w_irng2, slotQ_some, opQ_some, opD_some, getQ_some, opB_some, blQ_bl, tyQ_some, inQ_int, evQ_some, ghQ_some, List.getElem?_cons_zero, List.getElem?_cons_succ, List.set_cons_zero, List.set_cons_succ, List.map_cons, List.map_nil, List.cons_append, List.nil_append, List.replicate, List.length_cons, List.length_nil]
    exact h
  | true =>
    simp only [in_gr, h2, if_true, nin_dct by_ hrl, hb h2, Bool.not_true, Bool.false_eq_true, if_false, w_ok, w_c, w_v, w_op, w_un, w_b, w_nil, w_cons, w_call, w_tup, w_lst, w_dct0, w_fld, w_meth, w_make, w_mt, w_get2, w_tru, w_asB, w_not, w_and, w_or, w_chain, w_andV, w_orV, w_notV, w_if, w_isi, w_pNone, w_pSome, w_sl, w_nx, w_brk, w_cnt, w_drop, w_ret, w_retN, w_sif, w_raise, gmN, gmT, gmAll, w_asg, w_sfld, w_ssub, w_saug, w_for, w_iseq, w_irng1, w_irng2, slotQ_some, opQ_some, opD_some, getQ_some, opB_some, blQ_bl, tyQ_some, inQ_int, evQ_some, ghQ_some, List.getElem?_cons_zero, List.getElem?_cons_succ, List.set_cons_zero, List.set_cons_succ, List.map_cons, List.map_nil, List.cons_append, List.nil_append, List.replicate, List.length_cons, List.length_nil]
    exact h
theorem due_miss (hrl : G.ob rl = .dct kro) (hdu : G.ob du = .lst (os.map fun z => .ref z.ll)) (h1 : decide (w = "expire") = false) (hb : grB w = true → (valD kro (.inr by_)).isSome = true) (hn : ¬ (1 ≤ n ∧ n ≤ os.length)) : m_law_due [.ref du, .str w, .str by_, .int n, .int day, .ref rl] G = .ok (.str "Missing") G := by
  have hlen : lenD (.ref du) G = some os.length := (len_lst hdu).trans (by rw [List.length_map])
  apply eq_of_sat
  refine due_6 hrl h1 hb ?_
  rw [q_law_due_6, w_seq]
  unfold dEnv
  simp only [w_ok, w_c, w_v, w_op, w_un, w_b, w_nil, w_cons, w_call, w_tup, w_lst, w_dct0, w_fld, w_meth, w_make, w_mt, w_get2, w_tru, w_asB, w_not, w_and, w_or, w_chain, w_andV, w_orV, w_notV, w_if, w_isi, w_pNone, w_pSome, w_sl, w_nx, w_brk, w_cnt, w_drop, w_ret, w_retN, w_sif, w_raise, gmN, gmT, gmAll, w_asg, w_sfld, w_ssub, w_saug, w_for, w_iseq, w_irng1, w_irng2, slotQ_some, opQ_some, opD_some, getQ_some, opB_some, blQ_bl, tyQ_some, inQ_int, evQ_some, ghQ_some, List.getElem?_cons_zero, List.getElem?_cons_succ, List.set_cons_zero, List.set_cons_succ, List.map_cons, List.map_nil, List.cons_append, List.nil_append, List.replicate, List.length_cons, List.length_nil, o_add, o_sub, o_lt, o_le, o_gt, o_ge, o_les, o_eq, o_ne, o_eqs, o_nes, o_eqb, o_neb, o_is, o_isNot, o_iadd, o_neg, b_int, b_min, b_max, b_len hlen]
  by_cases h : 1 ≤ n
  · have h2 : ¬ n ≤ (os.length : Int) := fun z => hn ⟨h, z⟩
    simp only [decide_eq_true h, decide_eq_false h2, if_true, Bool.not_false]
    exact ⟨(by first | rfl | trivial), (by first | rfl | trivial)⟩
  · simp only [decide_eq_false h, Bool.false_eq_true, if_false, Bool.not_false, if_true]
    exact ⟨(by first | rfl | trivial), (by first | rfl | trivial)⟩
theorem due_8 {Q : D → Gh → Prop} {E : Nat → Gh → Prop} {i : Nat} {z : Oz} (hrl : G.ob rl = .dct kro) (hdu : G.ob du = .lst (os.map fun z => .ref z.ll)) (h1 : decide (w = "expire") = false) (hb : grB w = true → (valD kro (.inr by_)).isSome = true) (hi : os[i]? = some z)
    (h : (q_law_due_8 (dEnv du rl w by_ ((i : Int) + 1) day (some (.ref z.ll))) G).sat (dPq Q E)) : (m_law_due [.ref du, .str w, .str by_, .int ((i : Int) + 1), .int day, .ref rl] G).sat Q E := by
  have hlt : i < os.length := (List.getElem?_eq_some_iff.mp hi).1
  have hlen : lenD (.ref du) G = some os.length := (len_lst hdu).trans (by rw [List.length_map])
  have ix : opIx (.ref du) (.int ((i : Int) + 1 - 1)) G = some (.ref z.ll, G) := ix_lst hdu (atI_int (by omega) (by rw [show ((i : Int) + 1 - 1).toNat = i by omega, List.getElem?_map, hi]; rfl))
  refine due_6 hrl h1 hb ?_
  rw [q_law_due_6, w_seq]
  unfold dEnv
  simp only [w_ok, w_c, w_v, w_op, w_un, w_b, w_nil, w_cons, w_call, w_tup, w_lst, w_dct0, w_fld, w_meth, w_make, w_mt, w_get2, w_tru, w_asB, w_not, w_and, w_or, w_chain, w_andV, w_orV, w_notV, w_if, w_isi, w_pNone, w_pSome, w_sl, w_nx, w_brk, w_cnt, w_drop, w_ret, w_retN, w_sif, w_raise, gmN, gmT, gmAll, w_asg, w_sfld, w_ssub, w_saug, w_for, w_iseq, w_irng1, w_irng2, slotQ_some, opQ_some, opD_some, getQ_some, opB_some, blQ_bl, tyQ_some, inQ_int, evQ_some, ghQ_some, List.getElem?_cons_zero, List.getElem?_cons_succ, List.set_cons_zero, List.set_cons_succ, List.map_cons, List.map_nil, List.cons_append, List.nil_append, List.replicate, List.length_cons, List.length_nil, o_add, o_sub, o_lt, o_le, o_gt, o_ge, o_les, o_eq, o_ne, o_eqs, o_nes, o_eqb, o_neb, o_is, o_isNot, o_iadd, o_neg, b_int, b_min, b_max, b_len hlen, decide_eq_true (show (1 : Int) ≤ (i : Int) + 1 by omega), decide_eq_true (show (i : Int) + 1 ≤ (os.length : Int) by omega), if_true, Bool.not_true, Bool.false_eq_true, if_false]
  rw [q_law_due_7, w_seq]; simp only [w_ok, w_c, w_v, w_op, w_un, w_b, w_nil, w_cons, w_call, w_tup, w_lst, w_dct0, w_fld, w_meth, w_make, w_mt, w_get2, w_tru, w_asB, w_not, w_and, w_or, w_chain, w_andV, w_orV, w_notV, w_if, w_isi, w_pNone, w_pSome, w_sl, w_nx, w_brk, w_cnt, w_drop, w_ret, w_retN, w_sif, w_raise, gmN, gmT, gmAll, w_asg, w_sfld, w_ssub, w_saug, w_for, w_iseq, w_irng1, w_irng2, slotQ_some, opQ_some, opD_some, getQ_some, opB_some, blQ_bl, tyQ_some, inQ_int, evQ_some, ghQ_some, List.getElem?_cons_zero, List.getElem?_cons_succ, List.set_cons_zero, List.set_cons_succ, List.map_cons, List.map_nil, List.cons_append, List.nil_append, List.replicate, List.length_cons, List.length_nil, o_add, o_sub, o_lt, o_le, o_gt, o_ge, o_les, o_eq, o_ne, o_eqs, o_nes, o_eqb, o_neb, o_is, o_isNot, o_iadd, o_neg, b_int, b_min, b_max, ix]
  exact h
/-! one order of the law's -/
def DoneL (r : Rs D) (G : Gh) (z : Oz) (st : Str) (gs : List Str) : Prop := ∃ G' lg, r = .ok (.str st) G' ∧ FrX [z.ll] G G' ∧ G'.ob z.ll = .lst (lawL ⟨{ z.x with st := st }, gs, z.id, z.ll, lg⟩) ∧ G'.ob lg = .lst (gs.map D.str) ∧ (lg = z.lg ∨ (G.n ≤ lg ∧ lg < G'.n))
theorem lx {z : Oz} (h : G.ob z.ll = .lst (lawL z)) (k : Int) (d : D) (e : L2.atI (lawL z) k = some d) : opIx (.ref z.ll) (.int k) G = some (d, G) := ix_lst h e
theorem ls8 {z : Oz} (h : G.ob z.ll = .lst (lawL z)) (s : Str) : setO (.ref z.ll) (.int 8) (.str s) G = some (G.set z.ll (.lst (lawL { z with x := { z.x with st := s } }))) := by
  rw [set_lst (kk := 8) h rfl]; rfl
theorem ls7 {z : Oz} (h : G.ob z.ll = .lst (lawL z)) (l : Nat) : setO (.ref z.ll) (.int 7) (.ref l) G = some (G.set z.ll (.lst (lawL { z with lg := l }))) := by
  rw [set_lst (kk := 7) h rfl]; rfl
theorem dct_eq (env : Ev) : (eDctN (((eC (.str "withdraw")), (eC (.str "withdrawn"))) :: (((eC (.str "complete")), (eC (.str "done"))) :: (((eC (.str "fail")), (eC (.str "failed"))) :: []))) env G) = .ok (.ref G.n) (G.push (.dct [(.inr "withdraw", .str "withdrawn"), (.inr "complete", .str "done"), (.inr "fail", .str "failed")])) := by
  apply eq_of_sat
  rw [w_dctN]
  show ((match (G.push (.dct [])).ob G.n, keysD [(.str "withdraw", .str "withdrawn"), (.str "complete", .str "done"), (.str "fail", .str "failed")] with
    | .dct [], some kvs => if kvs.length ≤ 15 then Rs.ok (.ref G.n) ((G.push (.dct [])).set G.n (.dct (mrgD [] kvs))) else .no
    | _, _ => .no) : Rs D).sat _ _
  rw [ob_push_same]
  show (Rs.ok (D.ref G.n) ((G.push (.dct [])).set G.n (.dct (mrgD [] [(.inr "withdraw", .str "withdrawn"), (.inr "complete", .str "done"), (.inr "fail", .str "failed")])))).sat _ _
  rw [w_ok, push_set]
  refine ⟨rfl, ?_⟩
  have : mrgD [] [((.inr "withdraw" : Key), D.str "withdrawn"), (.inr "complete", .str "done"), (.inr "fail", .str "failed")] = [(.inr "withdraw", .str "withdrawn"), (.inr "complete", .str "done"), (.inr "fail", .str "failed")] := by
    unfold mrgD
    simp only [List.foldl_cons, List.foldl_nil, putD]
    rw [if_neg (by decide +kernel), putD, if_neg (by decide +kernel), putD, if_neg (by decide +kernel), putD]
  rw [this]
theorem dct_val {w st : Str} (h : valD [((.inr "withdraw" : Key), D.str "withdrawn"), (.inr "complete", .str "done"), (.inr "fail", .str "failed")] (.inr w) = some (.str st)) : opIx (.ref G.n) (.str w) (G.push (.dct [(.inr "withdraw", .str "withdrawn"), (.inr "complete", .str "done"), (.inr "fail", .str "failed")])) = some (.str st, G.push (.dct [(.inr "withdraw", .str "withdrawn"), (.inr "complete", .str "done"), (.inr "fail", .str "failed")])) := ix_dct (ob_push_same _ _) rfl h
theorem v_withdraw : valD [((.inr "withdraw" : Key), D.str "withdrawn"), (.inr "complete", .str "done"), (.inr "fail", .str "failed")] (.inr "withdraw") = some (.str "withdrawn") := by
  rw [valD, if_pos rfl]
theorem v_complete : valD [((.inr "withdraw" : Key), D.str "withdrawn"), (.inr "complete", .str "done"), (.inr "fail", .str "failed")] (.inr "complete") = some (.str "done") := by
  rw [valD, if_neg (by decide +kernel), valD, if_pos rfl]
theorem v_fail : valD [((.inr "withdraw" : Key), D.str "withdrawn"), (.inr "complete", .str "done"), (.inr "fail", .str "failed")] (.inr "fail") = some (.str "failed") := by
  rw [valD, if_neg (by decide +kernel), valD, if_neg (by decide +kernel), valD, if_pos rfl]
/-- the order's state is set by the law -/
theorem due_11 {i : Nat} {z : Oz} {st : Str} {Q : D → Gh → Prop} {E : Nat → Gh → Prop} (hz : G.ob z.ll = .lst (lawL z)) (hl : z.ll < G.n) (hg : G.ob z.lg = .lst (z.gs.map D.str)) (hgl : z.lg < G.n) (hne : z.ll ≠ z.lg) (hv : valD [((.inr "withdraw" : Key), D.str "withdrawn"), (.inr "complete", .str "done"), (.inr "fail", .str "failed")] (.inr w) = some (.str st))
    (k : ∀ G', FrX [z.ll] G G' → G'.ob z.ll = .lst (lawL { z with x := { z.x with st := st } }) → G'.ob z.lg = .lst (z.gs.map D.str) → Q (.str st) G') : (q_law_due_11 (dEnv du rl w by_ ((i : Int) + 1) day (some (.ref z.ll))) G).sat (dPq Q E) := by
  rw [q_law_due_11, w_seq]
  unfold dEnv
  have f := Mi.Fr.push G (.dct [(.inr "withdraw", .str "withdrawn"), (.inr "complete", .str "done"), (.inr "fail", .str "failed")])
  have hz1 := (f.2 _ hl).trans hz
  simp only [w_ok, w_c, w_v, w_op, w_un, w_b, w_nil, w_cons, w_call, w_tup, w_lst, w_dct0, w_fld, w_meth, w_make, w_mt, w_get2, w_tru, w_asB, w_not, w_and, w_or, w_chain, w_andV, w_orV, w_notV, w_if, w_isi, w_pNone, w_pSome, w_sl, w_nx, w_brk, w_cnt, w_drop, w_ret, w_retN, w_sif, w_raise, gmN, gmT, gmAll, w_asg, w_sfld, w_ssub, w_saug, w_for, w_iseq, w_irng1, w_irng2, slotQ_some, opQ_some, opD_some, getQ_some, opB_some, blQ_bl, tyQ_some, inQ_int, evQ_some, ghQ_some, List.getElem?_cons_zero, List.getElem?_cons_succ, List.set_cons_zero, List.set_cons_succ, List.map_cons, List.map_nil, List.cons_append, List.nil_append, List.replicate, List.length_cons, List.length_nil, dct_eq, dct_val hv]
  generalize G.push (.dct [(.inr "withdraw", .str "withdrawn"), (.inr "complete", .str "done"), (.inr "fail", .str "failed")]) = G1 at f hz1
  have ix : opIx (.ref z.ll) (.int 8) (G1.set z.ll (.lst (lawL { z with x := { z.x with st := st } }))) = some (.str st, G1.set z.ll (.lst (lawL { z with x := { z.x with st := st } }))) := ix_lst (ob_set_same _ _ _) rfl
  simp only [ls8 hz1, ix, w_ok, w_c, w_v, w_op, w_un, w_b, w_nil, w_cons, w_call, w_tup, w_lst, w_dct0, w_fld, w_meth, w_make, w_mt, w_get2, w_tru, w_asB, w_not, w_and, w_or, w_chain, w_andV, w_orV, w_notV, w_if, w_isi, w_pNone, w_pSome, w_sl, w_nx, w_brk, w_cnt, w_drop, w_ret, w_retN, w_sif, w_raise, gmN, gmT, gmAll, w_asg, w_sfld, w_ssub, w_saug, w_for, w_iseq, w_irng1, w_irng2, slotQ_some, opQ_some, opD_some, getQ_some, opB_some, blQ_bl, tyQ_some, inQ_int, evQ_some, ghQ_some, List.getElem?_cons_zero, List.getElem?_cons_succ, List.set_cons_zero, List.set_cons_succ, List.map_cons, List.map_nil, List.cons_append, List.nil_append, List.replicate, List.length_cons, List.length_nil]
  refine k _ ⟨f.1, fun j hj hn => ?_⟩ (ob_set_same _ _ _) ?_
  · simp only [List.mem_cons, List.not_mem_nil, or_false] at hn
    rw [ob_set_ne _ _ hn]; exact f.2 j hj
  · rw [ob_set_ne _ _ (fun e => hne e.symm)]
    exact (f.2 _ hgl).trans hg
theorem due_withdraw_bar {i : Nat} {z : Oz} (hrl : G.ob rl = .dct kro) (hdu : G.ob du = .lst (os.map fun z => .ref z.ll)) (hi : os[i]? = some z) (hz : G.ob z.ll = .lst (lawL z)) (hm : z.x.mr ≠ by_) : m_law_due [.ref du, .str "withdraw", .str by_, .int ((i : Int) + 1), .int day, .ref rl] G = .ok (.str "NotAllowed") G := by
  apply eq_of_sat
  refine due_8 hrl hdu sd_withdraw_expire (fun e => by rw [gr_withdraw] at e; cases e) hi ?_
  rw [q_law_due_8, w_seq]
  unfold dEnv
  simp only [w_ok, w_c, w_v, w_op, w_un, w_b, w_nil, w_cons, w_call, w_tup, w_lst, w_dct0, w_fld, w_meth, w_make, w_mt, w_get2, w_tru, w_asB, w_not, w_and, w_or, w_chain, w_andV, w_orV, w_notV, w_if, w_isi, w_pNone, w_pSome, w_sl, w_nx, w_brk, w_cnt, w_drop, w_ret, w_retN, w_sif, w_raise, gmN, gmT, gmAll, w_asg, w_sfld, w_ssub, w_saug, w_for, w_iseq, w_irng1, w_irng2, slotQ_some, opQ_some, opD_some, getQ_some, opB_some, blQ_bl, tyQ_some, inQ_int, evQ_some, ghQ_some, List.getElem?_cons_zero, List.getElem?_cons_succ, List.set_cons_zero, List.set_cons_succ, List.map_cons, List.map_nil, List.cons_append, List.nil_append, List.replicate, List.length_cons, List.length_nil]
  refine ⟨by decide, ?_⟩
  simp only [in_gr, gr_withdraw, Bool.false_eq_true, if_false, w_ok, w_c, w_v, w_op, w_un, w_b, w_nil, w_cons, w_call, w_tup, w_lst, w_dct0, w_fld, w_meth, w_make, w_mt, w_get2, w_tru, w_asB, w_not, w_and, w_or, w_chain, w_andV, w_orV, w_notV, w_if, w_isi, w_pNone, w_pSome, w_sl, w_nx, w_brk, w_cnt, w_drop, w_ret, w_retN, w_sif, w_raise, gmN, gmT, gmAll, w_asg, w_sfld, w_ssub, w_saug, w_for, w_iseq, w_irng1, w_irng2, slotQ_some, opQ_some, opD_some, getQ_some, opB_some, blQ_bl, tyQ_some, inQ_int, evQ_some, ghQ_some, List.getElem?_cons_zero, List.getElem?_cons_succ, List.set_cons_zero, List.set_cons_succ, List.map_cons, List.map_nil, List.cons_append, List.nil_append, List.replicate, List.length_cons, List.length_nil]
  rw [q_law_due_9, w_seq]; simp only [w_ok, w_c, w_v, w_op, w_un, w_b, w_nil, w_cons, w_call, w_tup, w_lst, w_dct0, w_fld, w_meth, w_make, w_mt, w_get2, w_tru, w_asB, w_not, w_and, w_or, w_chain, w_andV, w_orV, w_notV, w_if, w_isi, w_pNone, w_pSome, w_sl, w_nx, w_brk, w_cnt, w_drop, w_ret, w_retN, w_sif, w_raise, gmN, gmT, gmAll, w_asg, w_sfld, w_ssub, w_saug, w_for, w_iseq, w_irng1, w_irng2, slotQ_some, opQ_some, opD_some, getQ_some, opB_some, blQ_bl, tyQ_some, inQ_int, evQ_some, ghQ_some, List.getElem?_cons_zero, List.getElem?_cons_succ, List.set_cons_zero, List.set_cons_succ, List.map_cons, List.map_nil, List.cons_append, List.nil_append, List.replicate, List.length_cons, List.length_nil, o_add, o_sub, o_lt, o_le, o_gt, o_ge, o_les, o_eq, o_ne, o_eqs, o_nes, o_eqb, o_neb, o_is, o_isNot, o_iadd, o_neg, b_int, b_min, b_max, sd_withdraw_withdraw, if_true, lx hz 0 _ rfl, decide_eq_false (fun e => hm e.symm : ¬ by_ = z.x.mr), Bool.not_false]
  exact ⟨(by first | rfl | trivial), (by first | rfl | trivial)⟩
theorem due_withdraw_state {i : Nat} {z : Oz} (hrl : G.ob rl = .dct kro) (hdu : G.ob du = .lst (os.map fun z => .ref z.ll)) (hi : os[i]? = some z) (hz : G.ob z.ll = .lst (lawL z)) (hm : z.x.mr = by_) (h1 : z.x.st ≠ "ready") (h2 : z.x.st ≠ "waiting") : m_law_due [.ref du, .str "withdraw", .str by_, .int ((i : Int) + 1), .int day, .ref rl] G = .ok (.str "Refused") G := by
  apply eq_of_sat
  refine due_8 hrl hdu sd_withdraw_expire (fun e => by rw [gr_withdraw] at e; cases e) hi ?_
  rw [q_law_due_8, w_seq]
  unfold dEnv
  simp only [w_ok, w_c, w_v, w_op, w_un, w_b, w_nil, w_cons, w_call, w_tup, w_lst, w_dct0, w_fld, w_meth, w_make, w_mt, w_get2, w_tru, w_asB, w_not, w_and, w_or, w_chain, w_andV, w_orV, w_notV, w_if, w_isi, w_pNone, w_pSome, w_sl, w_nx, w_brk, w_cnt, w_drop, w_ret, w_retN, w_sif, w_raise, gmN, gmT, gmAll, w_asg, w_sfld, w_ssub, w_saug, w_for, w_iseq, w_irng1, w_irng2, slotQ_some, opQ_some, opD_some, getQ_some, opB_some, blQ_bl, tyQ_some, inQ_int, evQ_some, ghQ_some, List.getElem?_cons_zero, List.getElem?_cons_succ, List.set_cons_zero, List.set_cons_succ, List.map_cons, List.map_nil, List.cons_append, List.nil_append, List.replicate, List.length_cons, List.length_nil]
  refine ⟨by decide, ?_⟩
  simp only [in_gr, gr_withdraw, Bool.false_eq_true, if_false, w_ok, w_c, w_v, w_op, w_un, w_b, w_nil, w_cons, w_call, w_tup, w_lst, w_dct0, w_fld, w_meth, w_make, w_mt, w_get2, w_tru, w_asB, w_not, w_and, w_or, w_chain, w_andV, w_orV, w_notV, w_if, w_isi, w_pNone, w_pSome, w_sl, w_nx, w_brk, w_cnt, w_drop, w_ret, w_retN, w_sif, w_raise, gmN, gmT, gmAll, w_asg, w_sfld, w_ssub, w_saug, w_for, w_iseq, w_irng1, w_irng2, slotQ_some, opQ_some, opD_some, getQ_some, opB_some, blQ_bl, tyQ_some, inQ_int, evQ_some, ghQ_some, List.getElem?_cons_zero, List.getElem?_cons_succ, List.set_cons_zero, List.set_cons_succ, List.map_cons, List.map_nil, List.cons_append, List.nil_append, List.replicate, List.length_cons, List.length_nil]
  rw [q_law_due_9, w_seq]; simp only [w_ok, w_c, w_v, w_op, w_un, w_b, w_nil, w_cons, w_call, w_tup, w_lst, w_dct0, w_fld, w_meth, w_make, w_mt, w_get2, w_tru, w_asB, w_not, w_and, w_or, w_chain, w_andV, w_orV, w_notV, w_if, w_isi, w_pNone, w_pSome, w_sl, w_nx, w_brk, w_cnt, w_drop, w_ret, w_retN, w_sif, w_raise, gmN, gmT, gmAll, w_asg, w_sfld, w_ssub, w_saug, w_for, w_iseq, w_irng1, w_irng2, slotQ_some, opQ_some, opD_some, getQ_some, opB_some, blQ_bl, tyQ_some, inQ_int, evQ_some, ghQ_some, List.getElem?_cons_zero, List.getElem?_cons_succ, List.set_cons_zero, List.set_cons_succ, List.map_cons, List.map_nil, List.cons_append, List.nil_append, List.replicate, List.length_cons, List.length_nil, o_add, o_sub, o_lt, o_le, o_gt, o_ge, o_les, o_eq, o_ne, o_eqs, o_nes, o_eqb, o_neb, o_is, o_isNot, o_iadd, o_neg, b_int, b_min, b_max, sd_withdraw_withdraw, if_true, lx hz 0 _ rfl, decide_eq_true hm.symm, Bool.not_true, Bool.false_eq_true, if_false]
  rw [q_law_due_10, w_seq]; simp only [w_ok, w_c, w_v, w_op, w_un, w_b, w_nil, w_cons, w_call, w_tup, w_lst, w_dct0, w_fld, w_meth, w_make, w_mt, w_get2, w_tru, w_asB, w_not, w_and, w_or, w_chain, w_andV, w_orV, w_notV, w_if, w_isi, w_pNone, w_pSome, w_sl, w_nx, w_brk, w_cnt, w_drop, w_ret, w_retN, w_sif, w_raise, gmN, gmT, gmAll, w_asg, w_sfld, w_ssub, w_saug, w_for, w_iseq, w_irng1, w_irng2, slotQ_some, opQ_some, opD_some, getQ_some, opB_some, blQ_bl, tyQ_some, inQ_int, evQ_some, ghQ_some, List.getElem?_cons_zero, List.getElem?_cons_succ, List.set_cons_zero, List.set_cons_succ, List.map_cons, List.map_nil, List.cons_append, List.nil_append, List.replicate, List.length_cons, List.length_nil, o_add, o_sub, o_lt, o_le, o_gt, o_ge, o_les, o_eq, o_ne, o_eqs, o_nes, o_eqb, o_neb, o_is, o_isNot, o_iadd, o_neg, b_int, b_min, b_max, sd_withdraw_withdraw, if_true, lx hz 8 _ rfl, decide_eq_false h1, decide_eq_false h2, Bool.not_true, Bool.not_false, Bool.false_eq_true, if_false]
  exact ⟨(by first | rfl | trivial), (by first | rfl | trivial)⟩
theorem due_withdraw_ok {i : Nat} {z : Oz} (hrl : G.ob rl = .dct kro) (hdu : G.ob du = .lst (os.map fun z => .ref z.ll)) (hi : os[i]? = some z) (hz : G.ob z.ll = .lst (lawL z)) (hl : z.ll < G.n) (hg : G.ob z.lg = .lst (z.gs.map D.str)) (hgl : z.lg < G.n) (hne : z.ll ≠ z.lg) (hm : z.x.mr = by_) (h1 : z.x.st = "ready" ∨ z.x.st = "waiting") : DoneL (m_law_due [.ref du, .str "withdraw", .str by_, .int ((i : Int) + 1), .int day, .ref rl] G) G z "withdrawn" z.gs := by
  have key : (m_law_due [.ref du, .str "withdraw", .str by_, .int ((i : Int) + 1), .int day, .ref rl] G).sat (fun d G' => d = .str "withdrawn" ∧ FrX [z.ll] G G' ∧ G'.ob z.ll = .lst (lawL { z with x := { z.x with st := "withdrawn" } }) ∧ G'.ob z.lg = .lst (z.gs.map D.str)) nE := by
    refine due_8 hrl hdu sd_withdraw_expire (fun e => by rw [gr_withdraw] at e; cases e) hi ?_
    rw [q_law_due_8, w_seq]
    unfold dEnv
    simp only [w_ok, w_c, w_v, w_op, w_un, w_b, w_nil, w_cons, w_call, w_tup, w_lst, w_dct0, w_fld, w_meth, w_make, w_mt, w_get2, w_tru, w_asB, w_not, w_and, w_or, w_chain, w_andV, w_orV, w_notV, w_if, w_isi, w_pNone, w_pSome, w_sl, w_nx, w_brk, w_cnt, w_drop, w_ret, w_retN, w_sif, w_raise, gmN, gmT, gmAll, w_asg, w_sfld, w_ssub, w_saug, w_for, w_iseq, w_irng1, w_irng2, slotQ_some, opQ_some, opD_some, getQ_some, opB_some, blQ_bl, tyQ_some, inQ_int, evQ_some, ghQ_some, List.getElem?_cons_zero, List.getElem?_cons_succ, List.set_cons_zero, List.set_cons_succ, List.map_cons, List.map_nil, List.cons_append, List.nil_append, List.replicate, List.length_cons, List.length_nil]
    refine ⟨by decide, ?_⟩
    simp only [in_gr, gr_withdraw, Bool.false_eq_true, if_false, w_ok, w_c, w_v, w_op, w_un, w_b, w_nil, w_cons, w_call, w_tup, w_lst, w_dct0, w_fld, w_meth, w_make, w_mt, w_get2, w_tru, w_asB, w_not, w_and, w_or, w_chain, w_andV, w_orV, w_notV, w_if, w_isi, w_pNone, w_pSome, w_sl, w_nx, w_brk, w_cnt, w_drop, w_ret, w_retN, w_sif, w_raise, gmN, gmT, gmAll, w_asg, w_sfld, w_ssub, w_saug, w_for, w_iseq, w_irng1, w_irng2, slotQ_some, opQ_some, opD_some, getQ_some, opB_some, blQ_bl, tyQ_some, inQ_int, evQ_some, ghQ_some, List.getElem?_cons_zero, List.getElem?_cons_succ, List.set_cons_zero, List.set_cons_succ, List.map_cons, List.map_nil, List.cons_append, List.nil_append, List.replicate, List.length_cons, List.length_nil]
    have fin : (q_law_due_11 (dEnv du rl "withdraw" by_ ((i : Int) + 1) day (some (.ref z.ll))) G).sat (dPq (fun d G' => d = .str "withdrawn" ∧ FrX [z.ll] G G' ∧ G'.ob z.ll = .lst (lawL { z with x := { z.x with st := "withdrawn" } }) ∧ G'.ob z.lg = .lst (z.gs.map D.str)) nE) := due_11 hz hl hg hgl hne v_withdraw fun G' a b c => ⟨rfl, a, b, c⟩
    rw [q_law_due_9, w_seq]; simp only [w_ok, w_c, w_v, w_op, w_un, w_b, w_nil, w_cons, w_call, w_tup, w_lst, w_dct0, w_fld, w_meth, w_make, w_mt, w_get2, w_tru, w_asB, w_not, w_and, w_or, w_chain, w_andV, w_orV, w_notV, w_if, w_isi, w_pNone, w_pSome, w_sl, w_nx, w_brk, w_cnt, w_drop, w_ret, w_retN, w_sif, w_raise, gmN, gmT, gmAll, w_asg, w_sfld, w_ssub, w_saug, w_for, w_iseq, w_irng1, w_irng2, slotQ_some, opQ_some, opD_some, getQ_some, opB_some, blQ_bl, tyQ_some, inQ_int, evQ_some, ghQ_some, List.getElem?_cons_zero, List.getElem?_cons_succ, List.set_cons_zero, List.set_cons_succ, List.map_cons, List.map_nil, List.cons_append, List.nil_append, List.replicate, List.length_cons, List.length_nil, o_add, o_sub, o_lt, o_le, o_gt, o_ge, o_les, o_eq, o_ne, o_eqs, o_nes, o_eqb, o_neb, o_is, o_isNot, o_iadd, o_neg, b_int, b_min, b_max, sd_withdraw_withdraw, if_true, lx hz 0 _ rfl, decide_eq_true hm.symm, Bool.not_true, Bool.false_eq_true, if_false]
    rw [q_law_due_10, w_seq]
    simp only [w_ok, w_c, w_v, w_op, w_un, w_b, w_nil, w_cons, w_call, w_tup, w_lst, w_dct0, w_fld, w_meth, w_make, w_mt, w_get2, w_tru, w_asB, w_not, w_and, w_or, w_chain, w_andV, w_orV, w_notV, w_if, w_isi, w_pNone, w_pSome, w_sl, w_nx, w_brk, w_cnt, w_drop, w_ret, w_retN, w_sif, w_raise, gmN, gmT, gmAll, w_asg, w_sfld, w_ssub, w_saug, w_for, w_iseq, w_irng1, w_irng2, slotQ_some, opQ_some, opD_some, getQ_some, opB_some, blQ_bl, tyQ_some, inQ_int, evQ_some, ghQ_some, List.getElem?_cons_zero, List.getElem?_cons_succ, List.set_cons_zero, List.set_cons_succ, List.map_cons, List.map_nil, List.cons_append, List.nil_append, List.replicate, List.length_cons, List.length_nil, o_add, o_sub, o_lt, o_le, o_gt, o_ge, o_les, o_eq, o_ne, o_eqs, o_nes, o_eqb, o_neb, o_is, o_isNot, o_iadd, o_neg, b_int, b_min, b_max, sd_withdraw_withdraw, lx hz 8 _ rfl]
    by_cases h2 : z.x.st = "ready"
    · simp only [decide_eq_true h2, Bool.not_true, Bool.false_eq_true, if_false]
      exact fin
    · simp only [decide_eq_false h2, decide_eq_true (h1.resolve_left h2), Bool.not_true, Bool.not_false, if_true, Bool.false_eq_true, if_false]
      exact fin
  obtain ⟨d, G', e, rfl, a, b, c⟩ := Rs.ok_of key
  exact ⟨G', z.lg, e, a, b, c, .inl rfl⟩
theorem due_complete_state {i : Nat} {z : Oz} (hrl : G.ob rl = .dct kro) (hdu : G.ob du = .lst (os.map fun z => .ref z.ll)) (hi : os[i]? = some z) (hz : G.ob z.ll = .lst (lawL z)) (h1 : z.x.st ≠ "ready") : m_law_due [.ref du, .str "complete", .str by_, .int ((i : Int) + 1), .int day, .ref rl] G = .ok (.str "Refused") G := by
  apply eq_of_sat
  refine due_8 hrl hdu sd_complete_expire (fun e => by rw [gr_complete] at e; cases e) hi ?_
  rw [q_law_due_8, w_seq]
  unfold dEnv
  simp only [w_ok, w_c, w_v, w_op, w_un, w_b, w_nil, w_cons, w_call, w_tup, w_lst, w_dct0, w_fld, w_meth, w_make, w_mt, w_get2, w_tru, w_asB, w_not, w_and, w_or, w_chain, w_andV, w_orV, w_notV, w_if, w_isi, w_pNone, w_pSome, w_sl, w_nx, w_brk, w_cnt, w_drop, w_ret, w_retN, w_sif, w_raise, gmN, gmT, gmAll, w_asg, w_sfld, w_ssub, w_saug, w_for, w_iseq, w_irng1, w_irng2, slotQ_some, opQ_some, opD_some, getQ_some, opB_some, blQ_bl, tyQ_some, inQ_int, evQ_some, ghQ_some, List.getElem?_cons_zero, List.getElem?_cons_succ, List.set_cons_zero, List.set_cons_succ, List.map_cons, List.map_nil, List.cons_append, List.nil_append, List.replicate, List.length_cons, List.length_nil]
  refine ⟨by decide, ?_⟩
  simp only [in_gr, gr_complete, Bool.false_eq_true, if_false, w_ok, w_c, w_v, w_op, w_un, w_b, w_nil, w_cons, w_call, w_tup, w_lst, w_dct0, w_fld, w_meth, w_make, w_mt, w_get2, w_tru, w_asB, w_not, w_and, w_or, w_chain, w_andV, w_orV, w_notV, w_if, w_isi, w_pNone, w_pSome, w_sl, w_nx, w_brk, w_cnt, w_drop, w_ret, w_retN, w_sif, w_raise, gmN, gmT, gmAll, w_asg, w_sfld, w_ssub, w_saug, w_for, w_iseq, w_irng1, w_irng2, slotQ_some, opQ_some, opD_some, getQ_some, opB_some, blQ_bl, tyQ_some, inQ_int, evQ_some, ghQ_some, List.getElem?_cons_zero, List.getElem?_cons_succ, List.set_cons_zero, List.set_cons_succ, List.map_cons, List.map_nil, List.cons_append, List.nil_append, List.replicate, List.length_cons, List.length_nil]
  rw [q_law_due_9, w_seq]; simp only [w_ok, w_c, w_v, w_op, w_un, w_b, w_nil, w_cons, w_call, w_tup, w_lst, w_dct0, w_fld, w_meth, w_make, w_mt, w_get2, w_tru, w_asB, w_not, w_and, w_or, w_chain, w_andV, w_orV, w_notV, w_if, w_isi, w_pNone, w_pSome, w_sl, w_nx, w_brk, w_cnt, w_drop, w_ret, w_retN, w_sif, w_raise, gmN, gmT, gmAll, w_asg, w_sfld, w_ssub, w_saug, w_for, w_iseq, w_irng1, w_irng2, slotQ_some, opQ_some, opD_some, getQ_some, opB_some, blQ_bl, tyQ_some, inQ_int, evQ_some, ghQ_some, List.getElem?_cons_zero, List.getElem?_cons_succ, List.set_cons_zero, List.set_cons_succ, List.map_cons, List.map_nil, List.cons_append, List.nil_append, List.replicate, List.length_cons, List.length_nil, o_add, o_sub, o_lt, o_le, o_gt, o_ge, o_les, o_eq, o_ne, o_eqs, o_nes, o_eqb, o_neb, o_is, o_isNot, o_iadd, o_neg, b_int, b_min, b_max, sd_complete_withdraw, Bool.false_eq_true, if_false]
  rw [q_law_due_10, w_seq]; simp only [w_ok, w_c, w_v, w_op, w_un, w_b, w_nil, w_cons, w_call, w_tup, w_lst, w_dct0, w_fld, w_meth, w_make, w_mt, w_get2, w_tru, w_asB, w_not, w_and, w_or, w_chain, w_andV, w_orV, w_notV, w_if, w_isi, w_pNone, w_pSome, w_sl, w_nx, w_brk, w_cnt, w_drop, w_ret, w_retN, w_sif, w_raise, gmN, gmT, gmAll, w_asg, w_sfld, w_ssub, w_saug, w_for, w_iseq, w_irng1, w_irng2, slotQ_some, opQ_some, opD_some, getQ_some, opB_some, blQ_bl, tyQ_some, inQ_int, evQ_some, ghQ_some, List.getElem?_cons_zero, List.getElem?_cons_succ, List.set_cons_zero, List.set_cons_succ, List.map_cons, List.map_nil, List.cons_append, List.nil_append, List.replicate, List.length_cons, List.length_nil, o_add, o_sub, o_lt, o_le, o_gt, o_ge, o_les, o_eq, o_ne, o_eqs, o_nes, o_eqb, o_neb, o_is, o_isNot, o_iadd, o_neg, b_int, b_min, b_max, sd_complete_withdraw, if_true, lx hz 8 _ rfl, decide_eq_false h1, Bool.not_false]
  exact ⟨(by first | rfl | trivial), (by first | rfl | trivial)⟩
theorem due_complete_ok {i : Nat} {z : Oz} (hrl : G.ob rl = .dct kro) (hdu : G.ob du = .lst (os.map fun z => .ref z.ll)) (hi : os[i]? = some z) (hz : G.ob z.ll = .lst (lawL z)) (hl : z.ll < G.n) (hg : G.ob z.lg = .lst (z.gs.map D.str)) (hgl : z.lg < G.n) (hne : z.ll ≠ z.lg) (h1 : z.x.st = "ready") : DoneL (m_law_due [.ref du, .str "complete", .str by_, .int ((i : Int) + 1), .int day, .ref rl] G) G z "done" z.gs := by
  have key : (m_law_due [.ref du, .str "complete", .str by_, .int ((i : Int) + 1), .int day, .ref rl] G).sat (fun d G' => d = .str "done" ∧ FrX [z.ll] G G' ∧ G'.ob z.ll = .lst (lawL { z with x := { z.x with st := "done" } }) ∧ G'.ob z.lg = .lst (z.gs.map D.str)) nE := by
    refine due_8 hrl hdu sd_complete_expire (fun e => by rw [gr_complete] at e; cases e) hi ?_
    rw [q_law_due_8, w_seq]
    unfold dEnv
    simp only [w_ok, w_c, w_v, w_op, w_un, w_b, w_nil, w_cons, w_call, w_tup, w_lst, w_dct0, w_fld, w_meth, w_make, w_mt, w_get2, w_tru, w_asB, w_not, w_and, w_or, w_chain, w_andV, w_orV, w_notV, w_if, w_isi, w_pNone, w_pSome, w_sl, w_nx, w_brk, w_cnt, w_drop, w_ret, w_retN, w_sif, w_raise, gmN, gmT, gmAll, w_asg, w_sfld, w_ssub, w_saug, w_for, w_iseq, w_irng1, w_irng2, slotQ_some, opQ_some, opD_some, getQ_some, opB_some, blQ_bl, tyQ_some, inQ_int, evQ_some, ghQ_some, List.getElem?_cons_zero, List.getElem?_cons_succ, List.set_cons_zero, List.set_cons_succ, List.map_cons, List.map_nil, List.cons_append, List.nil_append, List.replicate, List.length_cons, List.length_nil]
    refine ⟨by decide, ?_⟩
    simp only [in_gr, gr_complete, Bool.false_eq_true, if_false, w_ok, w_c, w_v, w_op, w_un, w_b, w_nil, w_cons, w_call, w_tup, w_lst, w_dct0, w_fld, w_meth, w_make, w_mt, w_get2, w_tru, w_asB, w_not, w_and, w_or, w_chain, w_andV, w_orV, w_notV, w_if, w_isi, w_pNone, w_pSome, w_sl, w_nx, w_brk, w_cnt, w_drop, w_ret, w_retN, w_sif, w_raise, gmN, gmT, gmAll, w_asg, w_sfld, w_ssub, w_saug, w_for, w_iseq, w_irng1, w_irng2, slotQ_some, opQ_some, opD_some, getQ_some, opB_some, blQ_bl, tyQ_some, inQ_int, evQ_some, ghQ_some, List.getElem?_cons_zero, List.getElem?_cons_succ, List.set_cons_zero, List.set_cons_succ, List.map_cons, List.map_nil, List.cons_append, List.nil_append, List.replicate, List.length_cons, List.length_nil]
    rw [q_law_due_9, w_seq]; simp only [w_ok, w_c, w_v, w_op, w_un, w_b, w_nil, w_cons, w_call, w_tup, w_lst, w_dct0, w_fld, w_meth, w_make, w_mt, w_get2, w_tru, w_asB, w_not, w_and, w_or, w_chain, w_andV, w_orV, w_notV, w_if, w_isi, w_pNone, w_pSome, w_sl, w_nx, w_brk, w_cnt, w_drop, w_ret, w_retN, w_sif, w_raise, gmN, gmT, gmAll, w_asg, w_sfld, w_ssub, w_saug, w_for, w_iseq, w_irng1, w_irng2, slotQ_some, opQ_some, opD_some, getQ_some, opB_some, blQ_bl, tyQ_some, inQ_int, evQ_some, ghQ_some, List.getElem?_cons_zero, List.getElem?_cons_succ, List.set_cons_zero, List.set_cons_succ, List.map_cons, List.map_nil, List.cons_append, List.nil_append, List.replicate, List.length_cons, List.length_nil, o_add, o_sub, o_lt, o_le, o_gt, o_ge, o_les, o_eq, o_ne, o_eqs, o_nes, o_eqb, o_neb, o_is, o_isNot, o_iadd, o_neg, b_int, b_min, b_max, sd_complete_withdraw, Bool.false_eq_true, if_false]
    rw [q_law_due_10, w_seq]; simp only [w_ok, w_c, w_v, w_op, w_un, w_b, w_nil, w_cons, w_call, w_tup, w_lst, w_dct0, w_fld, w_meth, w_make, w_mt, w_get2, w_tru, w_asB, w_not, w_and, w_or, w_chain, w_andV, w_orV, w_notV, w_if, w_isi, w_pNone, w_pSome, w_sl, w_nx, w_brk, w_cnt, w_drop, w_ret, w_retN, w_sif, w_raise, gmN, gmT, gmAll, w_asg, w_sfld, w_ssub, w_saug, w_for, w_iseq, w_irng1, w_irng2, slotQ_some, opQ_some, opD_some, getQ_some, opB_some, blQ_bl, tyQ_some, inQ_int, evQ_some, ghQ_some, List.getElem?_cons_zero, List.getElem?_cons_succ, List.set_cons_zero, List.set_cons_succ, List.map_cons, List.map_nil, List.cons_append, List.nil_append, List.replicate, List.length_cons, List.length_nil, o_add, o_sub, o_lt, o_le, o_gt, o_ge, o_les, o_eq, o_ne, o_eqs, o_nes, o_eqb, o_neb, o_is, o_isNot, o_iadd, o_neg, b_int, b_min, b_max, lx hz 8 _ rfl, decide_eq_true h1, Bool.not_true, Bool.false_eq_true, if_false]
    exact due_11 hz hl hg hgl hne v_complete fun G' a b c => ⟨rfl, a, b, c⟩
  obtain ⟨d, G', e, rfl, a, b, c⟩ := Rs.ok_of key
  exact ⟨G', z.lg, e, a, b, c, .inl rfl⟩
theorem due_fail_state {i : Nat} {z : Oz} (hrl : G.ob rl = .dct kro) (hdu : G.ob du = .lst (os.map fun z => .ref z.ll)) (hi : os[i]? = some z) (hz : G.ob z.ll = .lst (lawL z)) (h1 : z.x.st ≠ "ready") : m_law_due [.ref du, .str "fail", .str by_, .int ((i : Int) + 1), .int day, .ref rl] G = .ok (.str "Refused") G := by
  apply eq_of_sat
  refine due_8 hrl hdu sd_fail_expire (fun e => by rw [gr_fail] at e; cases e) hi ?_
  rw [q_law_due_8, w_seq]
  unfold dEnv
  simp only [w_ok, w_c, w_v, w_op, w_un, w_b, w_nil, w_cons, w_call, w_tup, w_lst, w_dct0, w_fld, w_meth, w_make, w_mt, w_get2, w_tru, w_asB, w_not, w_and, w_or, w_chain, w_andV, w_orV, w_notV, w_if, w_isi, w_pNone, w_pSome, w_sl, w_nx, w_brk, w_cnt, w_drop, w_ret, w_retN, w_sif, w_raise, gmN, gmT, gmAll, w_asg, w_sfld, w_ssub, w_saug, w_for, w_iseq, w_irng1, w_irng2, slotQ_some, opQ_some, opD_some, getQ_some, opB_some, blQ_bl, tyQ_some, inQ_int, evQ_some, ghQ_some, List.getElem?_cons_zero, List.getElem?_cons_succ, List.set_cons_zero, List.set_cons_succ, List.map_cons, List.map_nil, List.cons_append, List.nil_append, List.replicate, List.length_cons, List.length_nil]
  refine ⟨by decide, ?_⟩
  simp only [in_gr, gr_fail, Bool.false_eq_true, if_false, w_ok, w_c, w_v, w_op, w_un, w_b, w_nil, w_cons, w_call, w_tup, w_lst, w_dct0, w_fld, w_meth, w_make, w_mt, w_get2, w_tru, w_asB, w_not, w_and, w_or, w_chain, w_andV, w_orV, w_notV, w_if, w_isi, w_pNone, w_pSome, w_sl, w_nx, w_brk, w_cnt, w_drop, w_ret, w_retN, w_sif, w_raise, gmN, gmT, gmAll, w_asg, w_sfld, w_ssub, w_saug, w_for, w_iseq, w_irng1, w_irng2, slotQ_some, opQ_some, opD_some, getQ_some, opB_some, blQ_bl, tyQ_some, inQ_int, evQ_some, ghQ_some, List.getElem?_cons_zero, List.getElem?_cons_succ, List.set_cons_zero, List.set_cons_succ, List.map_cons, List.map_nil, List.cons_append, List.nil_append, List.replicate, List.length_cons, List.length_nil]
  rw [q_law_due_9, w_seq]; simp only [w_ok, w_c, w_v, w_op, w_un, w_b, w_nil, w_cons, w_call, w_tup, w_lst, w_dct0, w_fld, w_meth, w_make, w_mt, w_get2, w_tru, w_asB, w_not, w_and, w_or, w_chain, w_andV, w_orV, w_notV, w_if, w_isi, w_pNone, w_pSome, w_sl, w_nx, w_brk, w_cnt, w_drop, w_ret, w_retN, w_sif, w_raise, gmN, gmT, gmAll, w_asg, w_sfld, w_ssub, w_saug, w_for, w_iseq, w_irng1, w_irng2, slotQ_some, opQ_some, opD_some, getQ_some, opB_some, blQ_bl, tyQ_some, inQ_int, evQ_some, ghQ_some, List.getElem?_cons_zero, List.getElem?_cons_succ, List.set_cons_zero, List.set_cons_succ, List.map_cons, List.map_nil, List.cons_append, List.nil_append, List.replicate, List.length_cons, List.length_nil, o_add, o_sub, o_lt, o_le, o_gt, o_ge, o_les, o_eq, o_ne, o_eqs, o_nes, o_eqb, o_neb, o_is, o_isNot, o_iadd, o_neg, b_int, b_min, b_max, sd_fail_withdraw, Bool.false_eq_true, if_false]
  rw [q_law_due_10, w_seq]; simp only [w_ok, w_c, w_v, w_op, w_un, w_b, w_nil, w_cons, w_call, w_tup, w_lst, w_dct0, w_fld, w_meth, w_make, w_mt, w_get2, w_tru, w_asB, w_not, w_and, w_or, w_chain, w_andV, w_orV, w_notV, w_if, w_isi, w_pNone, w_pSome, w_sl, w_nx, w_brk, w_cnt, w_drop, w_ret, w_retN, w_sif, w_raise, gmN, gmT, gmAll, w_asg, w_sfld, w_ssub, w_saug, w_for, w_iseq, w_irng1, w_irng2, slotQ_some, opQ_some, opD_some, getQ_some, opB_some, blQ_bl, tyQ_some, inQ_int, evQ_some, ghQ_some, List.getElem?_cons_zero, List.getElem?_cons_succ, List.set_cons_zero, List.set_cons_succ, List.map_cons, List.map_nil, List.cons_append, List.nil_append, List.replicate, List.length_cons, List.length_nil, o_add, o_sub, o_lt, o_le, o_gt, o_ge, o_les, o_eq, o_ne, o_eqs, o_nes, o_eqb, o_neb, o_is, o_isNot, o_iadd, o_neg, b_int, b_min, b_max, sd_fail_withdraw, if_true, lx hz 8 _ rfl, decide_eq_false h1, Bool.not_false]
  exact ⟨(by first | rfl | trivial), (by first | rfl | trivial)⟩
theorem due_fail_ok {i : Nat} {z : Oz} (hrl : G.ob rl = .dct kro) (hdu : G.ob du = .lst (os.map fun z => .ref z.ll)) (hi : os[i]? = some z) (hz : G.ob z.ll = .lst (lawL z)) (hl : z.ll < G.n) (hg : G.ob z.lg = .lst (z.gs.map D.str)) (hgl : z.lg < G.n) (hne : z.ll ≠ z.lg) (h1 : z.x.st = "ready") : DoneL (m_law_due [.ref du, .str "fail", .str by_, .int ((i : Int) + 1), .int day, .ref rl] G) G z "failed" z.gs := by
  have key : (m_law_due [.ref du, .str "fail", .str by_, .int ((i : Int) + 1), .int day, .ref rl] G).sat (fun d G' => d = .str "failed" ∧ FrX [z.ll] G G' ∧ G'.ob z.ll = .lst (lawL { z with x := { z.x with st := "failed" } }) ∧ G'.ob z.lg = .lst (z.gs.map D.str)) nE := by
    refine due_8 hrl hdu sd_fail_expire (fun e => by rw [gr_fail] at e; cases e) hi ?_
    rw [q_law_due_8, w_seq]
    unfold dEnv
    simp only [w_ok, w_c, w_v, w_op, w_un, w_b, w_nil, w_cons, w_call, w_tup, w_lst, w_dct0, w_fld, w_meth, w_make, w_mt, w_get2, w_tru, w_asB, w_not, w_and, w_or, w_chain, w_andV, w_orV, w_notV, w_if, w_isi, w_pNone, w_pSome, w_sl, w_nx, w_brk, w_cnt, w_drop, w_ret, w_retN, w_sif, w_raise, gmN, gmT, gmAll, w_asg, w_sfld, w_ssub, w_saug, w_for, w_iseq, w_irng1, w_irng2, slotQ_some, opQ_some, opD_some, getQ_some, opB_some, blQ_bl, tyQ_some, inQ_int, evQ_some, ghQ_some, List.getElem?_cons_zero, List.getElem?_cons_succ, List.set_cons_zero, List.set_cons_succ, List.map_cons, List.map_nil, List.cons_append, List.nil_append, List.replicate, List.length_cons, List.length_nil]
    refine ⟨by decide, ?_⟩
    simp only [in_gr, gr_fail, Bool.false_eq_true, if_false, w_ok, w_c, w_v, w_op, w_un, w_b, w_nil, w_cons, w_call, w_tup, w_lst, w_dct0, w_fld, w_meth, w_make, w_mt, w_get2, w_tru, w_asB, w_not, w_and, w_or, w_chain, w_andV, w_orV, w_notV, w_if, w_isi, w_pNone, w_pSome, w_sl, w_nx, w_brk, w_cnt, w_drop, w_ret, w_retN, w_sif, w_raise, gmN, gmT, gmAll, w_asg, w_sfld, w_ssub, w_saug, w_for, w_iseq, w_irng1, w_irng2, slotQ_some, opQ_some, opD_some, getQ_some, opB_some, blQ_bl, tyQ_some, inQ_int, evQ_some, ghQ_some, List.getElem?_cons_zero, List.getElem?_cons_succ, List.set_cons_zero, List.set_cons_succ, List.map_cons, List.map_nil, List.cons_append, List.nil_append, List.replicate, List.length_cons, List.length_nil]
    rw [q_law_due_9, w_seq]; simp only [w_ok, w_c, w_v, w_op, w_un, w_b, w_nil, w_cons, w_call, w_tup, w_lst, w_dct0, w_fld, w_meth, w_make, w_mt, w_get2, w_tru, w_asB, w_not, w_and, w_or, w_chain, w_andV, w_orV, w_notV, w_if, w_isi, w_pNone, w_pSome, w_sl, w_nx, w_brk, w_cnt, w_drop, w_ret, w_retN, w_sif, w_raise, gmN, gmT, gmAll, w_asg, w_sfld, w_ssub, w_saug, w_for, w_iseq, w_irng1, w_irng2, slotQ_some, opQ_some, opD_some, getQ_some, opB_some, blQ_bl, tyQ_some, inQ_int, evQ_some, ghQ_some, List.getElem?_cons_zero, List.getElem?_cons_succ, List.set_cons_zero, List.set_cons_succ, List.map_cons, List.map_nil, List.cons_append, List.nil_append, List.replicate, List.length_cons, List.length_nil, o_add, o_sub, o_lt, o_le, o_gt, o_ge, o_les, o_eq, o_ne, o_eqs, o_nes, o_eqb, o_neb, o_is, o_isNot, o_iadd, o_neg, b_int, b_min, b_max, sd_fail_withdraw, Bool.false_eq_true, if_false]
    rw [q_law_due_10, w_seq]; simp only [w_ok, w_c, w_v, w_op, w_un, w_b, w_nil, w_cons, w_call, w_tup, w_lst, w_dct0, w_fld, w_meth, w_make, w_mt, w_get2, w_tru, w_asB, w_not, w_and, w_or, w_chain, w_andV, w_orV, w_notV, w_if, w_isi, w_pNone, w_pSome, w_sl, w_nx, w_brk, w_cnt, w_drop, w_ret, w_retN, w_sif, w_raise, gmN, gmT, gmAll, w_asg, w_sfld, w_ssub, w_saug, w_for, w_iseq, w_irng1, w_irng2, slotQ_some, opQ_some, opD_some, getQ_some, opB_some, blQ_bl, tyQ_some, inQ_int, evQ_some, ghQ_some, List.getElem?_cons_zero, List.getElem?_cons_succ, List.set_cons_zero, List.set_cons_succ, List.map_cons, List.map_nil, List.cons_append, List.nil_append, List.replicate, List.length_cons, List.length_nil, o_add, o_sub, o_lt, o_le, o_gt, o_ge, o_les, o_eq, o_ne, o_eqs, o_nes, o_eqb, o_neb, o_is, o_isNot, o_iadd, o_neg, b_int, b_min, b_max, lx hz 8 _ rfl, decide_eq_true h1, Bool.not_true, Bool.false_eq_true, if_false]
    exact due_11 hz hl hg hgl hne v_fail fun G' a b c => ⟨rfl, a, b, c⟩
  obtain ⟨d, G', e, rfl, a, b, c⟩ := Rs.ok_of key
  exact ⟨G', z.lg, e, a, b, c, .inl rfl⟩
theorem due_dec {i : Nat} {z : Oz} {v : D} (h1 : decide (w = "expire") = false) (h2 : grB w = true) (hrl : G.ob rl = .dct kro) (hdu : G.ob du = .lst (os.map fun z => .ref z.ll)) (hi : os[i]? = some z) (hb : valD kro (.inr by_) = some v) {d : D} {G' : Gh} (e : m_law_decides [.ref z.ll, .str w, .str by_, .ref rl] G = .ok d G') : m_law_due [.ref du, .str w, .str by_, .int ((i : Int) + 1), .int day, .ref rl] G = .ok d G' := by
  apply eq_of_sat
  refine due_8 hrl hdu h1 (fun _ => by rw [hb]; rfl) hi ?_
  rw [q_law_due_8, w_seq]
  unfold dEnv
  simp only [w_ok, w_c, w_v, w_op, w_un, w_b, w_nil, w_cons, w_call, w_tup, w_lst, w_dct0, w_fld, w_meth, w_make, w_mt, w_get2, w_tru, w_asB, w_not, w_and, w_or, w_chain, w_andV, w_orV, w_notV, w_if, w_isi, w_pNone, w_pSome, w_sl, w_nx, w_brk, w_cnt, w_drop, w_ret, w_retN, w_sif, w_raise, gmN, gmT, gmAll, w_asg, w_sfld, w_ssub, w_saug, w_for, w_iseq, w_irng1, w_irng2, slotQ_some, opQ_some, opD_some, getQ_some, opB_some, blQ_bl, tyQ_some, inQ_int, evQ_some, ghQ_some, List.getElem?_cons_zero, List.getElem?_cons_succ, List.set_cons_zero, List.set_cons_succ, List.map_cons, List.map_nil, List.cons_append, List.nil_append, List.replicate, List.length_cons, List.length_nil]
  refine ⟨by decide, ?_⟩
  simp only [in_gr, h2, if_true, e, w_ok, w_c, w_v, w_op, w_un, w_b, w_nil, w_cons, w_call, w_tup, w_lst, w_dct0, w_fld, w_meth, w_make, w_mt, w_get2, w_tru, w_asB, w_not, w_and, w_or, w_chain, w_andV, w_orV, w_notV, w_if, w_isi, w_pNone, w_pSome, w_sl, w_nx, w_brk, w_cnt, w_drop, w_ret, w_retN, w_sif, w_raise, gmN, gmT, gmAll, w_asg, w_sfld, w_ssub, w_saug, w_for, w_iseq, w_irng1, w_irng2, slotQ_some, opQ_some, opD_some, getQ_some, opB_some, blQ_bl, tyQ_some, inQ_int, evQ_some, ghQ_some, List.getElem?_cons_zero, List.getElem?_cons_succ, List.set_cons_zero, List.set_cons_succ, List.map_cons, List.map_nil, List.cons_append, List.nil_append, List.replicate, List.length_cons, List.length_nil]
  exact ⟨(by first | rfl | trivial), (by first | rfl | trivial)⟩
abbrev ranks : Ob := .lst [.str "teller", .str "officer", .str "chief"]
theorem dec_state {z : Oz} (hz : G.ob z.ll = .lst (lawL z)) (hl : z.ll < G.n) (hs : z.x.st ≠ "waiting") : m_law_decides [.ref z.ll, .str w, .str by_, .ref rl] G = .ok (.str "Refused") (G.push ranks) := by
  apply eq_of_sat
  unfold m_law_decides b_law_decides
  rw [w_fun]
  refine ⟨rfl, ?_⟩
  rw [q_law_decides_2, w_seq]; simp only [w_ok, w_c, w_v, w_op, w_un, w_b, w_nil, w_cons, w_call, w_tup, w_lst, w_dct0, w_fld, w_meth, w_make, w_mt, w_get2, w_tru, w_asB, w_not, w_and, w_or, w_chain, w_andV, w_orV, w_notV, w_if, w_isi, w_pNone, w_pSome, w_sl, w_nx, w_brk, w_cnt, w_drop, w_ret, w_retN, w_sif, w_raise, gmN, gmT, gmAll, w_asg, w_sfld, w_ssub, w_saug, w_for, w_iseq, w_irng1, w_irng2, slotQ_some, opQ_some, opD_some, getQ_some, opB_some, blQ_bl, tyQ_some, inQ_int, evQ_some, ghQ_some, List.getElem?_cons_zero, List.getElem?_cons_succ, List.set_cons_zero, List.set_cons_succ, List.map_cons, List.map_nil, List.cons_append, List.nil_append, List.replicate, List.length_cons, List.length_nil, o_add, o_sub, o_lt, o_le, o_gt, o_ge, o_les, o_eq, o_ne, o_eqs, o_nes, o_eqb, o_neb, o_is, o_isNot, o_iadd, o_neg, b_int, b_min, b_max]
  refine ⟨by decide, ?_⟩
  rw [q_law_decides_3, w_seq]; simp only [w_ok, w_c, w_v, w_op, w_un, w_b, w_nil, w_cons, w_call, w_tup, w_lst, w_dct0, w_fld, w_meth, w_make, w_mt, w_get2, w_tru, w_asB, w_not, w_and, w_or, w_chain, w_andV, w_orV, w_notV, w_if, w_isi, w_pNone, w_pSome, w_sl, w_nx, w_brk, w_cnt, w_drop, w_ret, w_retN, w_sif, w_raise, gmN, gmT, gmAll, w_asg, w_sfld, w_ssub, w_saug, w_for, w_iseq, w_irng1, w_irng2, slotQ_some, opQ_some, opD_some, getQ_some, opB_some, blQ_bl, tyQ_some, inQ_int, evQ_some, ghQ_some, List.getElem?_cons_zero, List.getElem?_cons_succ, List.set_cons_zero, List.set_cons_succ, List.map_cons, List.map_nil, List.cons_append, List.nil_append, List.replicate, List.length_cons, List.length_nil, o_add, o_sub, o_lt, o_le, o_gt, o_ge, o_les, o_eq, o_ne, o_eqs, o_nes, o_eqb, o_neb, o_is, o_isNot, o_iadd, o_neg, b_int, b_min, b_max, lx (push_ob hz hl _) 8 _ rfl, decide_eq_false hs, Bool.not_false, if_true]
  exact ⟨(by first | rfl | trivial), (by first | rfl | trivial)⟩
theorem dec_bar {z : Oz} {s role : Str} (hz : G.ob z.ll = .lst (lawL z)) (hl : z.ll < G.n) (hrl : G.ob rl = .dct kro) (hrn : rl < G.n) (hs : z.x.st = "waiting") (hb : valD kro (.inr by_) = some (.str s)) (hsr : roleB s = true) (hr : z.x.ro = .str role) (hrr : roleB role = true) (hbar : by_ = z.x.mr ∨ rkN s < rkN role) : m_law_decides [.ref z.ll, .str w, .str by_, .ref rl] G = .ok (.str "NotAllowed") (G.push ranks) := by
  apply eq_of_sat
  unfold m_law_decides b_law_decides
  rw [w_fun]
  refine ⟨rfl, ?_⟩
  have hz1 := push_ob hz hl ranks
  have hk : (G.push ranks).ob G.n = ranks := ob_push_same _ _
  have ixr : opIx (.ref rl) (.str by_) (G.push ranks) = some (.str s, G.push ranks) := ix_dct (push_ob hrl hrn ranks) rfl hb
  have ix6 : opIx (.ref z.ll) (.int 6) (G.push ranks) = some (.str role, G.push ranks) := by rw [← hr]; exact lx hz1 6 _ rfl
  rw [q_law_decides_2, w_seq]; simp only [w_ok, w_c, w_v, w_op, w_un, w_b, w_nil, w_cons, w_call, w_tup, w_lst, w_dct0, w_fld, w_meth, w_make, w_mt, w_get2, w_tru, w_asB, w_not, w_and, w_or, w_chain, w_andV, w_orV, w_notV, w_if, w_isi, w_pNone, w_pSome, w_sl, w_nx, w_brk, w_cnt, w_drop, w_ret, w_retN, w_sif, w_raise, gmN, gmT, gmAll, w_asg, w_sfld, w_ssub, w_saug, w_for, w_iseq, w_irng1, w_irng2, slotQ_some, opQ_some, opD_some, getQ_some, opB_some, blQ_bl, tyQ_some, inQ_int, evQ_some, ghQ_some, List.getElem?_cons_zero, List.getElem?_cons_succ, List.set_cons_zero, List.set_cons_succ, List.map_cons, List.map_nil, List.cons_append, List.nil_append, List.replicate, List.length_cons, List.length_nil, o_add, o_sub, o_lt, o_le, o_gt, o_ge, o_les, o_eq, o_ne, o_eqs, o_nes, o_eqb, o_neb, o_is, o_isNot, o_iadd, o_neg, b_int, b_min, b_max]
  refine ⟨by decide, ?_⟩
  rw [q_law_decides_3, w_seq]; simp only [w_ok, w_c, w_v, w_op, w_un, w_b, w_nil, w_cons, w_call, w_tup, w_lst, w_dct0, w_fld, w_meth, w_make, w_mt, w_get2, w_tru, w_asB, w_not, w_and, w_or, w_chain, w_andV, w_orV, w_notV, w_if, w_isi, w_pNone, w_pSome, w_sl, w_nx, w_brk, w_cnt, w_drop, w_ret, w_retN, w_sif, w_raise, gmN, gmT, gmAll, w_asg, w_sfld, w_ssub, w_saug, w_for, w_iseq, w_irng1, w_irng2, slotQ_some, opQ_some, opD_some, getQ_some, opB_some, blQ_bl, tyQ_some, inQ_int, evQ_some, ghQ_some, List.getElem?_cons_zero, List.getElem?_cons_succ, List.set_cons_zero, List.set_cons_succ, List.map_cons, List.map_nil, List.cons_append, List.nil_append, List.replicate, List.length_cons, List.length_nil, o_add, o_sub, o_lt, o_le, o_gt, o_ge, o_les, o_eq, o_ne, o_eqs, o_nes, o_eqb, o_neb, o_is, o_isNot, o_iadd, o_neg, b_int, b_min, b_max, lx hz1 8 _ rfl, decide_eq_true hs, Bool.not_true, Bool.false_eq_true, if_false]
  rw [q_law_decides_4, w_seq]
  simp only [w_ok, w_c, w_v, w_op, w_un, w_b, w_nil, w_cons, w_call, w_tup, w_lst, w_dct0, w_fld, w_meth, w_make, w_mt, w_get2, w_tru, w_asB, w_not, w_and, w_or, w_chain, w_andV, w_orV, w_notV, w_if, w_isi, w_pNone, w_pSome, w_sl, w_nx, w_brk, w_cnt, w_drop, w_ret, w_retN, w_sif, w_raise, gmN, gmT, gmAll, w_asg, w_sfld, w_ssub, w_saug, w_for, w_iseq, w_irng1, w_irng2, slotQ_some, opQ_some, opD_some, getQ_some, opB_some, blQ_bl, tyQ_some, inQ_int, evQ_some, ghQ_some, List.getElem?_cons_zero, List.getElem?_cons_succ, List.set_cons_zero, List.set_cons_succ, List.map_cons, List.map_nil, List.cons_append, List.nil_append, List.replicate, List.length_cons, List.length_nil, o_add, o_sub, o_lt, o_le, o_gt, o_ge, o_les, o_eq, o_ne, o_eqs, o_nes, o_eqb, o_neb, o_is, o_isNot, o_iadd, o_neg, b_int, b_min, b_max, lx hz1 0 _ rfl]
  by_cases hm : by_ = z.x.mr
  · simp only [decide_eq_true hm, if_true]
    exact ⟨(by first | rfl | trivial), (by first | rfl | trivial)⟩
  · have hlt : rkN s < rkN role := hbar.resolve_left hm
    simp only [decide_eq_false hm, Bool.false_eq_true, if_false, isLst_of hk, true_and, ixr, ix6, ixL hk hsr, ixL hk hrr, opQ_some, o_lt, decide_eq_true (show (rkN s : Int) < (rkN role : Int) by omega), if_true, w_ok, w_c, w_v, w_op, w_un, w_b, w_nil, w_cons, w_call, w_tup, w_lst, w_dct0, w_fld, w_meth, w_make, w_mt, w_get2, w_tru, w_asB, w_not, w_and, w_or, w_chain, w_andV, w_orV, w_notV, w_if, w_isi, w_pNone, w_pSome, w_sl, w_nx, w_brk, w_cnt, w_drop, w_ret, w_retN, w_sif, w_raise, gmN, gmT, gmAll, w_asg, w_sfld, w_ssub, w_saug, w_for, w_iseq, w_irng1, w_irng2, slotQ_some, opQ_some, opD_some, getQ_some, opB_some, blQ_bl, tyQ_some, inQ_int, evQ_some, ghQ_some, List.getElem?_cons_zero, List.getElem?_cons_succ, List.set_cons_zero, List.set_cons_succ, List.map_cons, List.map_nil, List.cons_append, List.nil_append, List.replicate, List.length_cons, List.length_nil]
    try exact ⟨(by first | rfl | trivial), (by first | rfl | trivial)⟩
theorem dec_5 {z : Oz} {s role : Str} {Q : D → Gh → Prop} {E : Nat → Gh → Prop} (hz : G.ob z.ll = .lst (lawL z)) (hl : z.ll < G.n) (hrl : G.ob rl = .dct kro) (hrn : rl < G.n) (hs : z.x.st = "waiting") (hb : valD kro (.inr by_) = some (.str s)) (hsr : roleB s = true) (hr : z.x.ro = .str role) (hrr : roleB role = true) (hbar : ¬ (by_ = z.x.mr ∨ rkN s < rkN role))
    (h : (q_law_decides_5 ([some (.ref z.ll), some (.str w), some (.str by_), some (.ref rl), some (.ref G.n)] : Ev) (G.push ranks)).sat (dPq Q E)) : (m_law_decides [.ref z.ll, .str w, .str by_, .ref rl] G).sat Q E := by
  unfold m_law_decides b_law_decides
  rw [w_fun]
  refine ⟨rfl, ?_⟩
  have hz1 := push_ob hz hl ranks
  have hk : (G.push ranks).ob G.n = ranks := ob_push_same _ _
  have ixr : opIx (.ref rl) (.str by_) (G.push ranks) = some (.str s, G.push ranks) := ix_dct (push_ob hrl hrn ranks) rfl hb
  have ix6 : opIx (.ref z.ll) (.int 6) (G.push ranks) = some (.str role, G.push ranks) := by rw [← hr]; exact lx hz1 6 _ rfl
  have hm : ¬ by_ = z.x.mr := fun e => hbar (.inl e)
  have hlt : ¬ rkN s < rkN role := fun e => hbar (.inr e)
  rw [q_law_decides_2, w_seq]; simp only [w_ok, w_c, w_v, w_op, w_un, w_b, w_nil, w_cons, w_call, w_tup, w_lst, w_dct0, w_fld, w_meth, w_make, w_mt, w_get2, w_tru, w_asB, w_not, w_and, w_or, w_chain, w_andV, w_orV, w_notV, w_if, w_isi, w_pNone, w_pSome, w_sl, w_nx, w_brk, w_cnt, w_drop, w_ret, w_retN, w_sif, w_raise, gmN, gmT, gmAll, w_asg, w_sfld, w_ssub, w_saug, w_for, w_iseq, w_irng1, w_irng2, slotQ_some, opQ_some, opD_some, getQ_some, opB_some, blQ_bl, tyQ_some, inQ_int, evQ_some, ghQ_some, List.getElem?_cons_zero, List.getElem?_cons_succ, List.set_cons_zero, List.set_cons_succ, List.map_cons, List.map_nil, List.cons_append, List.nil_append, List.replicate, List.length_cons, List.length_nil, o_add, o_sub, o_lt, o_le, o_gt, o_ge, o_les, o_eq, o_ne, o_eqs, o_nes, o_eqb, o_neb, o_is, o_isNot, o_iadd, o_neg, b_int, b_min, b_max]
  refine ⟨by decide, ?_⟩
  rw [q_law_decides_3, w_seq]; simp only [w_ok, w_c, w_v, w_op, w_un, w_b, w_nil, w_cons, w_call, w_tup, w_lst, w_dct0, w_fld, w_meth, w_make, w_mt, w_get2, w_tru, w_asB, w_not, w_and, w_or, w_chain, w_andV, w_orV, w_notV, w_if, w_isi, w_pNone, w_pSome, w_sl, w_nx, w_brk, w_cnt, w_drop, w_ret, w_retN, w_sif, w_raise, gmN, gmT, gmAll, w_asg, w_sfld, w_ssub, w_saug, w_for, w_iseq, w_irng1, w_irng2, slotQ_some, opQ_some, opD_some, getQ_some, opB_some, blQ_bl, tyQ_some, inQ_int, evQ_some, ghQ_some, List.getElem?_cons_zero, List.getElem?_cons_succ, List.set_cons_zero, List.set_cons_succ, List.map_cons, List.map_nil, List.cons_append, List.nil_append, List.replicate, List.length_cons, List.length_nil, o_add, o_sub, o_lt, o_le, o_gt, o_ge, o_les, o_eq, o_ne, o_eqs, o_nes, o_eqb, o_neb, o_is, o_isNot, o_iadd, o_neg, b_int, b_min, b_max, lx hz1 8 _ rfl, decide_eq_true hs, Bool.not_true, Bool.false_eq_true, if_false]
  rw [q_law_decides_4, w_seq]
  simp only [w_ok, w_c, w_v, w_op, w_un, w_b, w_nil, w_cons, w_call, w_tup, w_lst, w_dct0, w_fld, w_meth, w_make, w_mt, w_get2, w_tru, w_asB, w_not, w_and, w_or, w_chain, w_andV, w_orV, w_notV, w_if, w_isi, w_pNone, w_pSome, w_sl, w_nx, w_brk, w_cnt, w_drop, w_ret, w_retN, w_sif, w_raise, gmN, gmT, gmAll, w_asg, w_sfld, w_ssub, w_saug, w_for, w_iseq, w_irng1, w_irng2, slotQ_some, opQ_some, opD_some, getQ_some, opB_some, blQ_bl, tyQ_some, inQ_int, evQ_some, ghQ_some, List.getElem?_cons_zero, List.getElem?_cons_succ, List.set_cons_zero, List.set_cons_succ, List.map_cons, List.map_nil, List.cons_append, List.nil_append, List.replicate, List.length_cons, List.length_nil, o_add, o_sub, o_lt, o_le, o_gt, o_ge, o_les, o_eq, o_ne, o_eqs, o_nes, o_eqb, o_neb, o_is, o_isNot, o_iadd, o_neg, b_int, b_min, b_max, lx hz1 0 _ rfl, decide_eq_false hm, Bool.false_eq_true, if_false, isLst_of hk, true_and, ixr, ix6, ixL hk hsr, ixL hk hrr, decide_eq_false (show ¬ (rkN s : Int) < (rkN role : Int) by omega)]
  exact h
theorem dec_reject {z : Oz} {s role : Str} (hz : G.ob z.ll = .lst (lawL z)) (hl : z.ll < G.n) (hg : G.ob z.lg = .lst (z.gs.map D.str)) (hgl : z.lg < G.n) (hne : z.ll ≠ z.lg) (hrl : G.ob rl = .dct kro) (hrn : rl < G.n) (hs : z.x.st = "waiting") (hb : valD kro (.inr by_) = some (.str s)) (hsr : roleB s = true) (hr : z.x.ro = .str role) (hrr : roleB role = true) (hbar : ¬ (by_ = z.x.mr ∨ rkN s < rkN role)) : DoneL (m_law_decides [.ref z.ll, .str "reject", .str by_, .ref rl] G) G z "rejected" z.gs := by
  have key : (m_law_decides [.ref z.ll, .str "reject", .str by_, .ref rl] G).sat (fun d G' => d = .str "rejected" ∧ FrX [z.ll] G G' ∧ G'.ob z.ll = .lst (lawL { z with x := { z.x with st := "rejected" } }) ∧ G'.ob z.lg = .lst (z.gs.map D.str)) nE := by
    refine dec_5 hz hl hrl hrn hs hb hsr hr hrr hbar ?_
    have f := Mi.Fr.push G ranks
    have hz1 := (f.2 _ hl).trans hz
    have hg1 := (f.2 _ hgl).trans hg
    generalize G.push ranks = G1 at f hz1 hg1
    have ix : opIx (.ref z.ll) (.int 8) (G1.set z.ll (.lst (lawL { z with x := { z.x with st := "rejected" } }))) = some (.str "rejected", G1.set z.ll (.lst (lawL { z with x := { z.x with st := "rejected" } }))) := ix_lst (ob_set_same _ _ _) rfl
    rw [q_law_decides_5, w_seq]; simp only [w_ok, w_c, w_v, w_op, w_un, w_b, w_nil, w_cons, w_call, w_tup, w_lst, w_dct0, w_fld, w_meth, w_make, w_mt, w_get2, w_tru, w_asB, w_not, w_and, w_or, w_chain, w_andV, w_orV, w_notV, w_if, w_isi, w_pNone, w_pSome, w_sl, w_nx, w_brk, w_cnt, w_drop, w_ret, w_retN, w_sif, w_raise, gmN, gmT, gmAll, w_asg, w_sfld, w_ssub, w_saug, w_for, w_iseq, w_irng1, w_irng2, slotQ_some, opQ_some, opD_some, getQ_some, opB_some, blQ_bl, tyQ_some, inQ_int, evQ_some, ghQ_some, List.getElem?_cons_zero, List.getElem?_cons_succ, List.set_cons_zero, List.set_cons_succ, List.map_cons, List.map_nil, List.cons_append, List.nil_append, List.replicate, List.length_cons, List.length_nil, o_add, o_sub, o_lt, o_le, o_gt, o_ge, o_les, o_eq, o_ne, o_eqs, o_nes, o_eqb, o_neb, o_is, o_isNot, o_iadd, o_neg, b_int, b_min, b_max, sd_reject_reject, if_true]
    rw [q_law_decides_1, w_seq]; simp only [w_ok, w_c, w_v, w_op, w_un, w_b, w_nil, w_cons, w_call, w_tup, w_lst, w_dct0, w_fld, w_meth, w_make, w_mt, w_get2, w_tru, w_asB, w_not, w_and, w_or, w_chain, w_andV, w_orV, w_notV, w_if, w_isi, w_pNone, w_pSome, w_sl, w_nx, w_brk, w_cnt, w_drop, w_ret, w_retN, w_sif, w_raise, gmN, gmT, gmAll, w_asg, w_sfld, w_ssub, w_saug, w_for, w_iseq, w_irng1, w_irng2, slotQ_some, opQ_some, opD_some, getQ_some, opB_some, blQ_bl, tyQ_some, inQ_int, evQ_some, ghQ_some, List.getElem?_cons_zero, List.getElem?_cons_succ, List.set_cons_zero, List.set_cons_succ, List.map_cons, List.map_nil, List.cons_append, List.nil_append, List.replicate, List.length_cons, List.length_nil, o_add, o_sub, o_lt, o_le, o_gt, o_ge, o_les, o_eq, o_ne, o_eqs, o_nes, o_eqb, o_neb, o_is, o_isNot, o_iadd, o_neg, b_int, b_min, b_max, ls8 hz1, ix]
    refine ⟨(by first | rfl | trivial), ⟨f.1, fun j hj hn => ?_⟩, ob_set_same _ _ _, ?_⟩
    · simp only [List.mem_cons, List.not_mem_nil, or_false] at hn
      rw [ob_set_ne _ _ hn]; exact f.2 j hj
    · rw [ob_set_ne _ _ (fun e => hne e.symm)]; exact hg1
  obtain ⟨d, G', e, rfl, a, b, c⟩ := Rs.ok_of key
  exact ⟨G', z.lg, e, a, b, c, .inl rfl⟩
theorem dec_twice {z : Oz} {s role : Str} (hz : G.ob z.ll = .lst (lawL z)) (hl : z.ll < G.n) (hg : G.ob z.lg = .lst (z.gs.map D.str)) (hgl : z.lg < G.n) (hrl : G.ob rl = .dct kro) (hrn : rl < G.n) (hs : z.x.st = "waiting") (hb : valD kro (.inr by_) = some (.str s)) (hsr : roleB s = true) (hr : z.x.ro = .str role) (hrr : roleB role = true) (hbar : ¬ (by_ = z.x.mr ∨ rkN s < rkN role)) (hm : by_ ∈ z.gs) : m_law_decides [.ref z.ll, .str "grant", .str by_, .ref rl] G = .ok (.str "NotAllowed") (G.push ranks) := by
  apply eq_of_sat
  refine dec_5 hz hl hrl hrn hs hb hsr hr hrr hbar ?_
  have hz1 := push_ob hz hl ranks
  have hg1 := push_ob hg hgl ranks
  rw [q_law_decides_5, w_seq]; simp only [w_ok, w_c, w_v, w_op, w_un, w_b, w_nil, w_cons, w_call, w_tup, w_lst, w_dct0, w_fld, w_meth, w_make, w_mt, w_get2, w_tru, w_asB, w_not, w_and, w_or, w_chain, w_andV, w_orV, w_notV, w_if, w_isi, w_pNone, w_pSome, w_sl, w_nx, w_brk, w_cnt, w_drop, w_ret, w_retN, w_sif, w_raise, gmN, gmT, gmAll, w_asg, w_sfld, w_ssub, w_saug, w_for, w_iseq, w_irng1, w_irng2, slotQ_some, opQ_some, opD_some, getQ_some, opB_some, blQ_bl, tyQ_some, inQ_int, evQ_some, ghQ_some, List.getElem?_cons_zero, List.getElem?_cons_succ, List.set_cons_zero, List.set_cons_succ, List.map_cons, List.map_nil, List.cons_append, List.nil_append, List.replicate, List.length_cons, List.length_nil, o_add, o_sub, o_lt, o_le, o_gt, o_ge, o_les, o_eq, o_ne, o_eqs, o_nes, o_eqb, o_neb, o_is, o_isNot, o_iadd, o_neg, b_int, b_min, b_max, sd_grant_reject, Bool.false_eq_true, if_false]
  rw [q_law_decides_6, w_seq]; simp only [w_ok, w_c, w_v, w_op, w_un, w_b, w_nil, w_cons, w_call, w_tup, w_lst, w_dct0, w_fld, w_meth, w_make, w_mt, w_get2, w_tru, w_asB, w_not, w_and, w_or, w_chain, w_andV, w_orV, w_notV, w_if, w_isi, w_pNone, w_pSome, w_sl, w_nx, w_brk, w_cnt, w_drop, w_ret, w_retN, w_sif, w_raise, gmN, gmT, gmAll, w_asg, w_sfld, w_ssub, w_saug, w_for, w_iseq, w_irng1, w_irng2, slotQ_some, opQ_some, opD_some, getQ_some, opB_some, blQ_bl, tyQ_some, inQ_int, evQ_some, ghQ_some, List.getElem?_cons_zero, List.getElem?_cons_succ, List.set_cons_zero, List.set_cons_succ, List.map_cons, List.map_nil, List.cons_append, List.nil_append, List.replicate, List.length_cons, List.length_nil, o_add, o_sub, o_lt, o_le, o_gt, o_ge, o_les, o_eq, o_ne, o_eqs, o_nes, o_eqb, o_neb, o_is, o_isNot, o_iadd, o_neg, b_int, b_min, b_max, lx hz1 7 _ rfl, in_strs by_ hg1, decide_eq_true hm, if_true]
  exact ⟨(by first | rfl | trivial), (by first | rfl | trivial)⟩
theorem dec_grant {z : Oz} {s role : Str} (hz : G.ob z.ll = .lst (lawL z)) (hl : z.ll < G.n) (hg : G.ob z.lg = .lst (z.gs.map D.str)) (hgl : z.lg < G.n) (hne : z.ll ≠ z.lg) (hrl : G.ob rl = .dct kro) (hrn : rl < G.n) (hs : z.x.st = "waiting") (hb : valD kro (.inr by_) = some (.str s)) (hsr : roleB s = true) (hr : z.x.ro = .str role) (hrr : roleB role = true) (hbar : ¬ (by_ = z.x.mr ∨ rkN s < rkN role)) (hm : by_ ∉ z.gs) (hgz : z.gs.length ≤ 1000) : DoneL (m_law_decides [.ref z.ll, .str "grant", .str by_, .ref rl] G) G z (if ((z.gs.length : Int) + 1) = z.x.rq then "ready" else z.x.st) (z.gs ++ [by_]) := by
  have key : (m_law_decides [.ref z.ll, .str "grant", .str by_, .ref rl] G).sat (fun d G' => ∃ lg, d = .str (if ((z.gs.length : Int) + 1) = z.x.rq then "ready" else z.x.st) ∧ FrX [z.ll] G G' ∧ G'.ob z.ll = .lst (lawL ⟨{ z.x with st := (if ((z.gs.length : Int) + 1) = z.x.rq then "ready" else z.x.st) }, z.gs ++ [by_], z.id, z.ll, lg⟩) ∧ G'.ob lg = .lst ((z.gs ++ [by_]).map D.str) ∧ G.n ≤ lg ∧ lg < G'.n) nE := by
    refine dec_5 hz hl hrl hrn hs hb hsr hr hrr hbar ?_
    have f := Mi.Fr.push G ranks
    have hz1 := (f.2 _ hl).trans hz
    have hg1 := (f.2 _ hgl).trans hg
    generalize G.push ranks = G1 at f hz1 hg1
    rw [q_law_decides_5, w_seq]; simp only [w_ok, w_c, w_v, w_op, w_un, w_b, w_nil, w_cons, w_call, w_tup, w_lst, w_dct0, w_fld, w_meth, w_make, w_mt, w_get2, w_tru, w_asB, w_not, w_and, w_or, w_chain, w_andV, w_orV, w_notV, w_if, w_isi, w_pNone, w_pSome, w_sl, w_nx, w_brk, w_cnt, w_drop, w_ret, w_retN, w_sif, w_raise, gmN, gmT, gmAll, w_asg, w_sfld, w_ssub, w_saug, w_for, w_iseq, w_irng1, w_irng2, slotQ_some, opQ_some, opD_some, getQ_some, opB_some, blQ_bl, tyQ_some, inQ_int, evQ_some, ghQ_some, List.getElem?_cons_zero, List.getElem?_cons_succ, List.set_cons_zero, List.set_cons_succ, List.map_cons, List.map_nil, List.cons_append, List.nil_append, List.replicate, List.length_cons, List.length_nil, o_add, o_sub, o_lt, o_le, o_gt, o_ge, o_les, o_eq, o_ne, o_eqs, o_nes, o_eqb, o_neb, o_is, o_isNot, o_iadd, o_neg, b_int, b_min, b_max, sd_grant_reject, Bool.false_eq_true, if_false]
    rw [q_law_decides_6, w_seq]; simp only [w_ok, w_c, w_v, w_op, w_un, w_b, w_nil, w_cons, w_call, w_tup, w_lst, w_dct0, w_fld, w_meth, w_make, w_mt, w_get2, w_tru, w_asB, w_not, w_and, w_or, w_chain, w_andV, w_orV, w_notV, w_if, w_isi, w_pNone, w_pSome, w_sl, w_nx, w_brk, w_cnt, w_drop, w_ret, w_retN, w_sif, w_raise, gmN, gmT, gmAll, w_asg, w_sfld, w_ssub, w_saug, w_for, w_iseq, w_irng1, w_irng2, slotQ_some, opQ_some, opD_some, getQ_some, opB_some, blQ_bl, tyQ_some, inQ_int, evQ_some, ghQ_some, List.getElem?_cons_zero, List.getElem?_cons_succ, List.set_cons_zero, List.set_cons_succ, List.map_cons, List.map_nil, List.cons_append, List.nil_append, List.replicate, List.length_cons, List.length_nil, o_add, o_sub, o_lt, o_le, o_gt, o_ge, o_les, o_eq, o_ne, o_eqs, o_nes, o_eqb, o_neb, o_is, o_isNot, o_iadd, o_neg, b_int, b_min, b_max, lx hz1 7 _ rfl, in_strs by_ hg1, decide_eq_false hm, Bool.false_eq_true, if_false]
    have f1 := f.1
    have f2 := Mi.Fr.push G1 (.lst [.str by_])
    have hz2 := (f2.2 z.ll (by omega)).trans hz1
    have hg2 := (f2.2 z.lg (by omega)).trans hg1
    have hb2 : (G1.push (.lst [.str by_])).ob G1.n = .lst [.str by_] := ob_push_same _ _
    have n2 : (G1.push (.lst [.str by_])).n = G1.n + 1 := n_push _ _
    rw [q_law_decides_7, w_seq]
    simp only [w_ok, w_c, w_v, w_op, w_un, w_b, w_nil, w_cons, w_call, w_tup, w_lst, w_dct0, w_fld, w_meth, w_make, w_mt, w_get2, w_tru, w_asB, w_not, w_and, w_or, w_chain, w_andV, w_orV, w_notV, w_if, w_isi, w_pNone, w_pSome, w_sl, w_nx, w_brk, w_cnt, w_drop, w_ret, w_retN, w_sif, w_raise, gmN, gmT, gmAll, w_asg, w_sfld, w_ssub, w_saug, w_for, w_iseq, w_irng1, w_irng2, slotQ_some, opQ_some, opD_some, getQ_some, opB_some, blQ_bl, tyQ_some, inQ_int, evQ_some, ghQ_some, List.getElem?_cons_zero, List.getElem?_cons_succ, List.set_cons_zero, List.set_cons_succ, List.map_cons, List.map_nil, List.cons_append, List.nil_append, List.replicate, List.length_cons, List.length_nil, lx hz1 7 _ rfl]
    refine ⟨by decide, ?_⟩
    generalize G1.push (.lst [.str by_]) = G2 at f2 hz2 hg2 hb2 n2
    have ad : opAdd (.ref z.lg) (.ref G1.n) G2 = some (.ref G2.n, G2.push (.lst ((z.gs ++ [by_]).map D.str))) := by
      unfold opAdd
      dsimp only
      rw [hg2, hb2]
      dsimp only
      rw [if_pos (sz1 (by rw [List.length_map]; simp only [List.length_cons, List.length_nil]; omega)), List.map_append]
      rfl
    have f3 := Mi.Fr.push G2 (.lst ((z.gs ++ [by_]).map D.str))
    have hz3 := (f3.2 z.ll (by omega)).trans hz2
    have hg3 : (G2.push (.lst ((z.gs ++ [by_]).map D.str))).ob G2.n = .lst ((z.gs ++ [by_]).map D.str) := ob_push_same _ _
    have n3 : (G2.push (.lst ((z.gs ++ [by_]).map D.str))).n = G2.n + 1 := n_push _ _
    simp only [ad, w_ok, w_c, w_v, w_op, w_un, w_b, w_nil, w_cons, w_call, w_tup, w_lst, w_dct0, w_fld, w_meth, w_make, w_mt, w_get2, w_tru, w_asB, w_not, w_and, w_or, w_chain, w_andV, w_orV, w_notV, w_if, w_isi, w_pNone, w_pSome, w_sl, w_nx, w_brk, w_cnt, w_drop, w_ret, w_retN, w_sif, w_raise, gmN, gmT, gmAll, w_asg, w_sfld, w_ssub, w_saug, w_for, w_iseq, w_irng1, w_irng2, slotQ_some, opQ_some, opD_some, getQ_some, opB_some, blQ_bl, tyQ_some, inQ_int, evQ_some, ghQ_some, List.getElem?_cons_zero, List.getElem?_cons_succ, List.set_cons_zero, List.set_cons_succ, List.map_cons, List.map_nil, List.cons_append, List.nil_append, List.replicate, List.length_cons, List.length_nil]
    generalize G2.push (.lst ((z.gs ++ [by_]).map D.str)) = G3 at f3 hz3 hg3 n3
    have hzz : (⟨z.x, z.gs ++ [by_], z.id, z.ll, G2.n⟩ : Oz).ll = z.ll := rfl
    have hz4 : (G3.set z.ll (.lst (lawL { z with lg := G2.n }))).ob z.ll = .lst (lawL (⟨z.x, z.gs ++ [by_], z.id, z.ll, G2.n⟩ : Oz)) := ob_set_same _ _ _
    have hlen : lenD (.ref G2.n) (G3.set z.ll (.lst (lawL { z with lg := G2.n }))) = some (z.gs.length + 1) := (len_lst ((ob_set_ne _ _ (by omega)).trans hg3)).trans (by rw [List.length_map, List.length_append]; rfl)
    have cast : ((z.gs.length + 1 : Nat) : Int) = (z.gs.length : Int) + 1 := by omega
    have fa : ∀ w j, j < G.n → j ≠ z.ll → (G3.set z.ll w).ob j = G.ob j := fun w j hj hn => by
      rw [ob_set_ne _ _ hn, f3.2 _ (by omega), f2.2 _ (by omega)]; exact f.2 j hj
    have ix7 : opIx (.ref z.ll) (.int 7) (G3.set z.ll (.lst (lawL { z with lg := G2.n }))) = some (.ref G2.n, G3.set z.ll (.lst (lawL { z with lg := G2.n }))) := ix_lst (ob_set_same _ _ _) rfl
    have ix5 : opIx (.ref z.ll) (.int 5) (G3.set z.ll (.lst (lawL { z with lg := G2.n }))) = some (.int z.x.rq, G3.set z.ll (.lst (lawL { z with lg := G2.n }))) := ix_lst (ob_set_same _ _ _) rfl
    have ix8 : opIx (.ref z.ll) (.int 8) (G3.set z.ll (.lst (lawL { z with lg := G2.n }))) = some (.str z.x.st, G3.set z.ll (.lst (lawL { z with lg := G2.n }))) := ix_lst (ob_set_same _ _ _) rfl
    have s8 : setO (.ref z.ll) (.int 8) (.str "ready") (G3.set z.ll (.lst (lawL { z with lg := G2.n }))) = some ((G3.set z.ll (.lst (lawL { z with lg := G2.n }))).set z.ll (.lst (lawL (⟨{ z.x with st := "ready" }, z.gs ++ [by_], z.id, z.ll, G2.n⟩ : Oz)))) := by
      rw [set_lst (kk := 8) (ob_set_same _ _ _) rfl]; rfl
    have ix9 : opIx (.ref z.ll) (.int 8) ((G3.set z.ll (.lst (lawL { z with lg := G2.n }))).set z.ll (.lst (lawL (⟨{ z.x with st := "ready" }, z.gs ++ [by_], z.id, z.ll, G2.n⟩ : Oz)))) = some (.str "ready", (G3.set z.ll (.lst (lawL { z with lg := G2.n }))).set z.ll (.lst (lawL (⟨{ z.x with st := "ready" }, z.gs ++ [by_], z.id, z.ll, G2.n⟩ : Oz)))) := ix_lst (ob_set_same _ _ _) rfl
    simp only [ls7 hz3, w_ok, w_c, w_v, w_op, w_un, w_b, w_nil, w_cons, w_call, w_tup, w_lst, w_dct0, w_fld, w_meth, w_make, w_mt, w_get2, w_tru, w_asB, w_not, w_and, w_or, w_chain, w_andV, w_orV, w_notV, w_if, w_isi, w_pNone, w_pSome, w_sl, w_nx, w_brk, w_cnt, w_drop, w_ret, w_retN, w_sif, w_raise, gmN, gmT, gmAll, w_asg, w_sfld, w_ssub, w_saug, w_for, w_iseq, w_irng1, w_irng2, slotQ_some, opQ_some, opD_some, getQ_some, opB_some, blQ_bl, tyQ_some, inQ_int, evQ_some, ghQ_some, List.getElem?_cons_zero, List.getElem?_cons_succ, List.set_cons_zero, List.set_cons_succ, List.map_cons, List.map_nil, List.cons_append, List.nil_append, List.replicate, List.length_cons, List.length_nil]
    rw [q_law_decides_8, w_seq]
    simp only [w_ok, w_c, w_v, w_op, w_un, w_b, w_nil, w_cons, w_call, w_tup, w_lst, w_dct0, w_fld, w_meth, w_make, w_mt, w_get2, w_tru, w_asB, w_not, w_and, w_or, w_chain, w_andV, w_orV, w_notV, w_if, w_isi, w_pNone, w_pSome, w_sl, w_nx, w_brk, w_cnt, w_drop, w_ret, w_retN, w_sif, w_raise, gmN, gmT, gmAll, w_asg, w_sfld, w_ssub, w_saug, w_for, w_iseq, w_irng1, w_irng2, slotQ_some, opQ_some, opD_some, getQ_some, opB_some, blQ_bl, tyQ_some, inQ_int, evQ_some, ghQ_some, List.getElem?_cons_zero, List.getElem?_cons_succ, List.set_cons_zero, List.set_cons_succ, List.map_cons, List.map_nil, List.cons_append, List.nil_append, List.replicate, List.length_cons, List.length_nil, o_add, o_sub, o_lt, o_le, o_gt, o_ge, o_les, o_eq, o_ne, o_eqs, o_nes, o_eqb, o_neb, o_is, o_isNot, o_iadd, o_neg, b_int, b_min, b_max, ix7, ix5, b_len hlen, cast]
    by_cases hq : ((z.gs.length : Int) + 1) = z.x.rq
    · simp only [decide_eq_true hq, if_true, s8, ix9, w_ok, w_c, w_v, w_op, w_un, w_b, w_nil, w_cons, w_call, w_tup, w_lst, w_dct0, w_fld, w_meth, w_make, w_mt, w_get2, w_tru, w_asB, w_not, w_and, w_or, w_chain, w_andV, w_orV, w_notV, w_if, w_isi, w_pNone, w_pSome, w_sl, w_nx, w_brk, w_cnt, w_drop, w_ret, w_retN, w_sif, w_raise, gmN, gmT, gmAll, w_asg, w_sfld, w_ssub, w_saug, w_for, w_iseq, w_irng1, w_irng2, slotQ_some, opQ_some, opD_some, getQ_some, opB_some, blQ_bl, tyQ_some, inQ_int, evQ_some, ghQ_some, List.getElem?_cons_zero, List.getElem?_cons_succ, List.set_cons_zero, List.set_cons_succ, List.map_cons, List.map_nil, List.cons_append, List.nil_append, List.replicate, List.length_cons, List.length_nil]
      rw [if_pos hq]
      refine ⟨G2.n, (by first | rfl | trivial), ⟨?_, fun j hj hn => ?_⟩, ob_set_same _ _ _, ?_, by omega, ?_⟩
      · simp only [n_set]; omega
      · simp only [List.mem_cons, List.not_mem_nil, or_false] at hn
        rw [ob_set_ne _ _ hn]; exact fa _ j hj hn
      · rw [ob_set_ne _ _ (by omega), ob_set_ne _ _ (by omega)]; exact hg3
      · simp only [n_set]; omega
    · simp only [decide_eq_false hq, Bool.false_eq_true, if_false, ix8, w_ok, w_c, w_v, w_op, w_un, w_b, w_nil, w_cons, w_call, w_tup, w_lst, w_dct0, w_fld, w_meth, w_make, w_mt, w_get2, w_tru, w_asB, w_not, w_and, w_or, w_chain, w_andV, w_orV, w_notV, w_if, w_isi, w_pNone, w_pSome, w_sl, w_nx, w_brk, w_cnt, w_drop, w_ret, w_retN, w_sif, w_raise, gmN, gmT, gmAll, w_asg, w_sfld, w_ssub, w_saug, w_for, w_iseq, w_irng1, w_irng2, slotQ_some, opQ_some, opD_some, getQ_some, opB_some, blQ_bl, tyQ_some, inQ_int, evQ_some, ghQ_some, List.getElem?_cons_zero, List.getElem?_cons_succ, List.set_cons_zero, List.set_cons_succ, List.map_cons, List.map_nil, List.cons_append, List.nil_append, List.replicate, List.length_cons, List.length_nil]
      rw [if_neg hq]
      refine ⟨G2.n, (by first | rfl | trivial), ⟨?_, fun j hj hn => ?_⟩, ob_set_same _ _ _, ?_, by omega, ?_⟩
      · simp only [n_set]; omega
      · simp only [List.mem_cons, List.not_mem_nil, or_false] at hn
        exact fa _ j hj hn
      · rw [ob_set_ne _ _ (by omega)]; exact hg3
      · simp only [n_set]; omega
  obtain ⟨d, G', e, lg, rfl, a, b, c, h⟩ := Rs.ok_of key
  exact ⟨G', lg, e, a, b, c, .inr h⟩
end
end Lw
namespace Lw
open PySem PySem.Spec PyProof.Rows L2 Mi
/-! k50: the law and the program agree on a call -/
section
variable {B : Nat} {G G' : Gh} {U o rl du : Nat} {us : List Str} {kro kn : List (Key × D)} {r : Int × Str} {os : List Oz} {N : Nat}
/-- what both leave: the same answer -/
def Agr (B : Nat) (G : Gh) (U o rl du : Nat) (us : List Str) (kro : List (Key × D)) (r : Int × Str) (kn : List (Key × D)) (N L : Nat) (w by_ : Str) (n day : Int) : Prop :=
  ∃ st G1 G2 os', m_law_due [.ref du, .str w, .str by_, .int n, .int day, .ref rl] G = .ok (.str st) G1 ∧ m_law_call [.ref o, .str w, .str by_, .int n, .int day] G1 = .ok (.str st) G2 ∧ Wz B G2 U o rl du us kro r kn os' (N + 1) ∧ os'.length = L ∧ ∀ j, j < B → G2.ob j = G.ob j
theorem agr_er (W : Wz B G U o rl du us kro r kn os N) {w by_ : Str} {n day : Int} {nm : Str} {G1 : Gh} (h1 : m_law_due [.ref du, .str w, .str by_, .int n, .int day, .ref rl] G = .ok (.str nm) G1) (f : Fr G G1)
    (h2 : Wz B G1 U o rl du us kro r kn os N → ∃ G2, m_law_call [.ref o, .str w, .str by_, .int n, .int day] G1 = .ok (.str nm) G2 ∧ Fr G1 G2) : Agr B G U o rl du us kro r kn N os.length w by_ n day := by
  obtain ⟨G2, e2, f2⟩ := h2 (W.fr f)
  refine ⟨nm, G1, G2, os, h1, e2, (W.fr (f.trans f2)).le, rfl, fun j hj => ?_⟩
  have := W.lt
  exact (f.trans f2).2 j (by omega)
structure Pf (G : Gh) (o : Nat) (kro : List (Key × D)) (os : List Oz) (z : Oz) : Prop where
  ho : G.ob o = .ins 9 (ordsF o)
  hro : G.ob (o + 1) = .dct kro
  hpl : G.ob (o + 3) = .lst (os.map fun z => .ref z.id)
  hz : G.ob z.id = .ins 8 (ordF z.x (z.id + 1))
  hg : G.ob (z.id + 1) = .lst (z.gs.map D.str)
theorem agr_ok (W : Wz B G U o rl du us kro r kn os N) {i : Nat} {z : Oz} (hi : os[i]? = some z) {w by_ : Str} {n day : Int} {st : Str} {gs : List Str} (L : DoneL (m_law_due [.ref du, .str w, .str by_, .int n, .int day, .ref rl] G) G z st gs)
    (P : ∀ G1, Pf G1 o kro os z → DoneP (m_law_call [.ref o, .str w, .str by_, .int n, .int day] G1) G1 z st gs) (hst : st = "waiting" → z.x.st = "waiting") (hgs : gs.length ≤ N + 1) : Agr B G U o rl du us kro r kn N os.length w by_ n day := by
  obtain ⟨l1, l2, l3, l4, l5⟩ := W.lt
  have hm := List.mem_of_getElem? hi
  obtain ⟨t1, t2, t3, t4, t5, t6⟩ := W.hlt z hm
  obtain ⟨d1, d2, d3, d4, d5, d6⟩ := W.dis z hm z hm
  obtain ⟨o1, o2, o3, o4⟩ := W.hos z hm
  obtain ⟨G1, lg, e1, f1, a1, a2, a3⟩ := L
  have g1 := f1.1
  have fl : ∀ j, j < G.n → j ≠ z.ll → G1.ob j = G.ob j := fun j hj hn => f1.2 j hj (by simp [hn])
  have pf : Pf G1 o kro os z := ⟨(fl _ (by omega) (by omega)).trans W.ho, (fl _ (by omega) (by omega)).trans W.hro, (fl _ (by omega) (by omega)).trans W.hpl, (fl _ (by omega) (by omega)).trans o1, (fl _ (by omega) (by omega)).trans o2⟩
  obtain ⟨G2, e2, f2, b1, b2⟩ := P G1 pf
  have g2 := f2.1
  have fp : ∀ j, j < G1.n → j ≠ z.id → j ≠ z.id + 1 → G2.ob j = G1.ob j := fun j hj n1 n2 => f2.2 j hj (by simp [n1, n2])
  have hlg : lg < G1.n ∧ lg ≠ z.id ∧ lg ≠ z.id + 1 := by
    rcases a3 with e | ⟨h1, h2⟩
    · omega
    · omega
  refine ⟨st, G1, G2, os.set i ⟨{ z.x with st := st }, gs, z.id, z.ll, lg⟩, e1, e2, W.upd1 hi rfl rfl ⟨by omega, fun j hj hn => ?_⟩ ⟨b1, b2, ?_, ?_⟩ ?_ ⟨?_, ?_, hgs⟩, List.length_set, fun j hj => ?_⟩
  · simp only [List.mem_cons, List.not_mem_nil, or_false, not_or] at hn
    rw [fp _ (by omega) hn.1 hn.2.1, fl _ hj hn.2.2]
  · show G2.ob z.ll = _
    rw [fp _ (by omega) (by omega) (by omega)]; exact a1
  · show G2.ob lg = _
    rw [fp _ hlg.1 hlg.2.1 hlg.2.2]; exact a2
  · rcases a3 with e | ⟨h1, h2⟩
    · exact .inl e
    · exact .inr ⟨h1, Nat.lt_of_lt_of_le h2 g2⟩
  · exact (W.hgd z hm).1
  · intro e
    exact (W.hgd z hm).2.1 (hst e)
  · rw [fp _ (by omega) (by omega) (by omega), fl _ (by omega) (by omega)]
theorem num_of {n : Int} {l : Nat} (h : 1 ≤ n ∧ n ≤ (l : Int)) : ∃ i : Nat, n = (i : Int) + 1 ∧ i < l := ⟨(n - 1).toNat, by omega, by omega⟩
theorem doneP_of {r r' : Rs D} {G : Gh} {z : Oz} {st : Str} {gs : List Str} (h : DoneP r G z st gs) (k : ∀ d G', r = .ok d G' → r' = .ok d G') : DoneP r' G z st gs := by
  obtain ⟨G', e, a⟩ := h
  exact ⟨G', k _ _ e, a⟩
theorem doneL_of {r r' : Rs D} {G : Gh} {z : Oz} {st : Str} {gs : List Str} (h : DoneL r G z st gs) (k : ∀ d G', r = .ok d G' → r' = .ok d G') : DoneL r' G z st gs := by
  obtain ⟨G', lg, e, a⟩ := h
  exact ⟨G', lg, k _ _ e, a⟩
theorem cM : ClsN 3 "Missing" := .inr (.inr (.inl ⟨rfl, rfl⟩))
theorem cR : ClsN 4 "Refused" := .inr (.inr (.inr (.inl ⟨rfl, rfl⟩)))
theorem cN : ClsN 6 "NotAllowed" := .inr (.inr (.inr (.inr (.inr (.inl ⟨rfl, rfl⟩)))))
theorem nw_rejected : ("rejected" : Str) ≠ "waiting" := by decide +kernel
theorem nw_withdrawn : ("withdrawn" : Str) ≠ "waiting" := by decide +kernel
theorem nw_done : ("done" : Str) ≠ "waiting" := by decide +kernel
theorem nw_failed : ("failed" : Str) ≠ "waiting" := by decide +kernel
theorem nw_ready : ("ready" : Str) ≠ "waiting" := by decide +kernel
theorem opn_iff {s : Str} : opnB s = true ↔ (s = "ready" ∨ s = "waiting") := by
  unfold opnB
  show ((("waiting" : Str) == s) || ((("ready" : Str) == s) || false)) = true ↔ _
  simp only [Bool.or_eq_true, beq_iff_eq, Bool.false_eq_true, or_false]
  constructor
  · rintro (h | h)
    · exact .inr h.symm
    · exact .inl h.symm
  · rintro (h | h)
    · exact .inr h.symm
    · exact .inl h.symm
theorem agr_grant (W : Wz B G U o rl du us kro r kn os N) (hN : N ≤ 900) (by_ : Str) (n day : Int) : Agr B G U o rl du us kro r kn N os.length "grant" by_ n day := by
  obtain ⟨l1, l2, l3, l4, l5⟩ := W.lt
  cases hb : valD kro (.inr by_) with
  | none =>
    exact agr_er W (due_no W.hrl sd_grant_expire gr_grant hb) (Mi.Fr.refl _) fun W1 => ⟨_, call_grant_er W1.ho (grant_er W1.ho (wf_no W1.ho W1.hro hb)) cN, Mi.Fr.push _ _⟩
  | some v =>
    obtain ⟨s, rfl, hsr⟩ := W.kr by_ v hb
    by_cases hn : 1 ≤ n ∧ n ≤ os.length
    · obtain ⟨i, rfl, hil⟩ := num_of hn
      obtain ⟨z, hi⟩ : ∃ z, os[i]? = some z := ⟨_, List.getElem?_eq_getElem hil⟩
      have hm := List.mem_of_getElem? hi
      obtain ⟨t1, t2, t3, t4, t5, t6⟩ := W.hlt z hm
      obtain ⟨o1, o2, o3, o4⟩ := W.hos z hm
      have hd := (W.dis z hm z hm).2.2.1
      by_cases hs : z.x.st = "waiting"
      · obtain ⟨role, hr, hrr⟩ := (W.hgd z hm).2.1 hs
        by_cases hbar : by_ = z.x.mr ∨ rkN s < rkN role
        · exact agr_er W (due_dec sd_grant_expire gr_grant W.hrl W.hdu hi hb (dec_bar o3 t4 W.hrl (by omega) hs hb hsr hr hrr hbar)) (Mi.Fr.push _ _) fun W1 => ⟨_, call_grant_er W1.ho (grant_er W1.ho (wf_bar W1.ho W1.hro W1.hpl hb hsr hi (W1.hos z hm).1 hs hr hrr hbar)) cN, Mi.Fr.push _ _⟩
        · by_cases hg : by_ ∈ z.gs
          · exact agr_er W (due_dec sd_grant_expire gr_grant W.hrl W.hdu hi hb (dec_twice o3 t4 o4 t6 W.hrl (by omega) hs hb hsr hr hrr hbar hg)) (Mi.Fr.push _ _) fun W1 => ⟨_, call_grant_er W1.ho (grant_twice W1.ho (W1.hos z hm).1 (W1.hos z hm).2.1 (wf_ok W1.ho W1.hro W1.hpl hb hsr hi (W1.hos z hm).1 hs hr hrr hbar) hg) cN, Mi.Fr.push _ _⟩
          · have hgz := (W.hgd z hm).2.2
            refine agr_ok W hi (doneL_of (dec_grant o3 t4 o4 t6 hd W.hrl (by omega) hs hb hsr hr hrr hbar hg (by omega)) fun d G' e => due_dec sd_grant_expire gr_grant W.hrl W.hdu hi hb e) (fun G1 p => doneP_of (grant_ok p.ho p.hz p.hg (wf_ok p.ho p.hro p.hpl hb hsr hi p.hz hs hr hrr hbar) hg (by omega)) fun d G' e => call_grant_ok p.ho e) (fun _ => hs) (by rw [List.length_append, List.length_singleton]; omega)
      · exact agr_er W (due_dec sd_grant_expire gr_grant W.hrl W.hdu hi hb (dec_state o3 t4 hs)) (Mi.Fr.push _ _) fun W1 => ⟨_, call_grant_er W1.ho (grant_er W1.ho (wf_state W1.ho W1.hro W1.hpl hb hi (W1.hos z hm).1 hs)) cR, Mi.Fr.push _ _⟩
    · exact agr_er W (due_miss W.hrl W.hdu sd_grant_expire (fun _ => by rw [hb]; rfl) hn) (Mi.Fr.refl _) fun W1 => ⟨_, call_grant_er W1.ho (grant_er W1.ho (wf_miss W1.ho W1.hro W1.hpl hb hn)) cM, Mi.Fr.push _ _⟩
theorem agr_reject (W : Wz B G U o rl du us kro r kn os N) (hN : N ≤ 900) (by_ : Str) (n day : Int) : Agr B G U o rl du us kro r kn N os.length "reject" by_ n day := by
  obtain ⟨l1, l2, l3, l4, l5⟩ := W.lt
  cases hb : valD kro (.inr by_) with
  | none =>
    exact agr_er W (due_no W.hrl sd_reject_expire gr_reject hb) (Mi.Fr.refl _) fun W1 => ⟨_, call_reject_er W1.ho (reject_er W1.ho (wf_no W1.ho W1.hro hb)) cN, Mi.Fr.push _ _⟩
  | some v =>
    obtain ⟨s, rfl, hsr⟩ := W.kr by_ v hb
    by_cases hn : 1 ≤ n ∧ n ≤ os.length
    · obtain ⟨i, rfl, hil⟩ := num_of hn
      obtain ⟨z, hi⟩ : ∃ z, os[i]? = some z := ⟨_, List.getElem?_eq_getElem hil⟩
      have hm := List.mem_of_getElem? hi
      obtain ⟨t1, t2, t3, t4, t5, t6⟩ := W.hlt z hm
      obtain ⟨o1, o2, o3, o4⟩ := W.hos z hm
      have hd := (W.dis z hm z hm).2.2.1
      by_cases hs : z.x.st = "waiting"
      · obtain ⟨role, hr, hrr⟩ := (W.hgd z hm).2.1 hs
        by_cases hbar : by_ = z.x.mr ∨ rkN s < rkN role
        · exact agr_er W (due_dec sd_reject_expire gr_reject W.hrl W.hdu hi hb (dec_bar o3 t4 W.hrl (by omega) hs hb hsr hr hrr hbar)) (Mi.Fr.push _ _) fun W1 => ⟨_, call_reject_er W1.ho (reject_er W1.ho (wf_bar W1.ho W1.hro W1.hpl hb hsr hi (W1.hos z hm).1 hs hr hrr hbar)) cN, Mi.Fr.push _ _⟩
        · refine agr_ok W hi (doneL_of (dec_reject o3 t4 o4 t6 hd W.hrl (by omega) hs hb hsr hr hrr hbar) fun d G' e => due_dec sd_reject_expire gr_reject W.hrl W.hdu hi hb e) (fun G1 p => doneP_of (reject_ok p.ho p.hz p.hg (wf_ok p.ho p.hro p.hpl hb hsr hi p.hz hs hr hrr hbar)) fun d G' e => call_reject_ok p.ho e) (fun e => absurd e nw_rejected) (Nat.le_succ_of_le (W.hgd z hm).2.2)
      · exact agr_er W (due_dec sd_reject_expire gr_reject W.hrl W.hdu hi hb (dec_state o3 t4 hs)) (Mi.Fr.push _ _) fun W1 => ⟨_, call_reject_er W1.ho (reject_er W1.ho (wf_state W1.ho W1.hro W1.hpl hb hi (W1.hos z hm).1 hs)) cR, Mi.Fr.push _ _⟩
    · exact agr_er W (due_miss W.hrl W.hdu sd_reject_expire (fun _ => by rw [hb]; rfl) hn) (Mi.Fr.refl _) fun W1 => ⟨_, call_reject_er W1.ho (reject_er W1.ho (wf_miss W1.ho W1.hro W1.hpl hb hn)) cM, Mi.Fr.push _ _⟩
theorem agr_withdraw (W : Wz B G U o rl du us kro r kn os N) (hN : N ≤ 900) (by_ : Str) (n day : Int) : Agr B G U o rl du us kro r kn N os.length "withdraw" by_ n day := by
  have hgr : grB "withdraw" = true → (valD kro (.inr by_)).isSome = true := fun e => by rw [gr_withdraw] at e; cases e
  by_cases hn : 1 ≤ n ∧ n ≤ os.length
  · obtain ⟨i, rfl, hil⟩ := num_of hn
    obtain ⟨z, hi⟩ : ∃ z, os[i]? = some z := ⟨_, List.getElem?_eq_getElem hil⟩
    have hm := List.mem_of_getElem? hi
    obtain ⟨t1, t2, t3, t4, t5, t6⟩ := W.hlt z hm
    obtain ⟨o1, o2, o3, o4⟩ := W.hos z hm
    have hd := (W.dis z hm z hm).2.2.1
    by_cases hm2 : z.x.mr = by_
    · by_cases hs : z.x.st = "ready" ∨ z.x.st = "waiting"
      · exact agr_ok W hi (due_withdraw_ok W.hrl W.hdu hi o3 t4 o4 t6 hd hm2 hs) (fun G1 p => doneP_of (withdraw_ok p.ho p.hpl hi p.hz p.hg hm2 (opn_iff.mpr hs)) fun d G' e => call_withdraw_ok p.ho e) (fun e => absurd e nw_withdrawn) (Nat.le_succ_of_le (W.hgd z hm).2.2)
      · exact agr_er W (due_withdraw_state W.hrl W.hdu hi o3 hm2 (fun e => hs (.inl e)) (fun e => hs (.inr e))) (Mi.Fr.refl _) fun W1 => ⟨_, call_withdraw_er W1.ho (withdraw_state W1.ho W1.hpl hi (W1.hos z hm).1 hm2 (Bool.eq_false_iff.mpr fun e => hs (opn_iff.mp e))) cR, Mi.Fr.push _ _⟩
    · exact agr_er W (due_withdraw_bar W.hrl W.hdu hi o3 hm2) (Mi.Fr.refl _) fun W1 => ⟨_, call_withdraw_er W1.ho (withdraw_bar W1.ho W1.hpl hi (W1.hos z hm).1 hm2) cN, Mi.Fr.push _ _⟩
  · exact agr_er W (due_miss W.hrl W.hdu sd_withdraw_expire hgr hn) (Mi.Fr.refl _) fun W1 => ⟨_, call_withdraw_er W1.ho (withdraw_miss W1.ho W1.hpl hn) cM, Mi.Fr.push _ _⟩
theorem agr_complete (W : Wz B G U o rl du us kro r kn os N) (hN : N ≤ 900) (by_ : Str) (n day : Int) : Agr B G U o rl du us kro r kn N os.length "complete" by_ n day := by
  have hgr : grB "complete" = true → (valD kro (.inr by_)).isSome = true := fun e => by rw [gr_complete] at e; cases e
  by_cases hn : 1 ≤ n ∧ n ≤ os.length
  · obtain ⟨i, rfl, hil⟩ := num_of hn
    obtain ⟨z, hi⟩ : ∃ z, os[i]? = some z := ⟨_, List.getElem?_eq_getElem hil⟩
    have hm := List.mem_of_getElem? hi
    obtain ⟨t1, t2, t3, t4, t5, t6⟩ := W.hlt z hm
    obtain ⟨o1, o2, o3, o4⟩ := W.hos z hm
    have hd := (W.dis z hm z hm).2.2.1
    by_cases hs : z.x.st = "ready"
    · exact agr_ok W hi (due_complete_ok W.hrl W.hdu hi o3 t4 o4 t6 hd hs) (fun G1 p => doneP_of (end_ok (s := "done") p.ho p.hpl hi p.hz p.hg hs) fun d G' e => call_complete_ok p.ho (complete_ok p.ho e)) (fun e => absurd e nw_done) (Nat.le_succ_of_le (W.hgd z hm).2.2)
    · exact agr_er W (due_complete_state W.hrl W.hdu hi o3 hs) (Mi.Fr.refl _) fun W1 => ⟨_, call_complete_er W1.ho (complete_er W1.ho (end_state W1.ho W1.hpl hi (W1.hos z hm).1 hs)) cR, Mi.Fr.push _ _⟩
  · exact agr_er W (due_miss W.hrl W.hdu sd_complete_expire hgr hn) (Mi.Fr.refl _) fun W1 => ⟨_, call_complete_er W1.ho (complete_er W1.ho (end_miss W1.ho W1.hpl hn)) cM, Mi.Fr.push _ _⟩
theorem agr_fail (W : Wz B G U o rl du us kro r kn os N) (hN : N ≤ 900) (by_ : Str) (n day : Int) : Agr B G U o rl du us kro r kn N os.length "fail" by_ n day := by
  have hgr : grB "fail" = true → (valD kro (.inr by_)).isSome = true := fun e => by rw [gr_fail] at e; cases e
  by_cases hn : 1 ≤ n ∧ n ≤ os.length
  · obtain ⟨i, rfl, hil⟩ := num_of hn
    obtain ⟨z, hi⟩ : ∃ z, os[i]? = some z := ⟨_, List.getElem?_eq_getElem hil⟩
    have hm := List.mem_of_getElem? hi
    obtain ⟨t1, t2, t3, t4, t5, t6⟩ := W.hlt z hm
    obtain ⟨o1, o2, o3, o4⟩ := W.hos z hm
    have hd := (W.dis z hm z hm).2.2.1
    by_cases hs : z.x.st = "ready"
    · exact agr_ok W hi (due_fail_ok W.hrl W.hdu hi o3 t4 o4 t6 hd hs) (fun G1 p => doneP_of (end_ok (s := "failed") p.ho p.hpl hi p.hz p.hg hs) fun d G' e => call_fail_ok p.ho (fail_ok p.ho e)) (fun e => absurd e nw_failed) (Nat.le_succ_of_le (W.hgd z hm).2.2)
    · exact agr_er W (due_fail_state W.hrl W.hdu hi o3 hs) (Mi.Fr.refl _) fun W1 => ⟨_, call_fail_er W1.ho (fail_er W1.ho (end_state W1.ho W1.hpl hi (W1.hos z hm).1 hs)) cR, Mi.Fr.push _ _⟩
  · exact agr_er W (due_miss W.hrl W.hdu sd_fail_expire hgr hn) (Mi.Fr.refl _) fun W1 => ⟨_, call_fail_er W1.ho (fail_er W1.ho (end_miss W1.ho W1.hpl hn)) cM, Mi.Fr.push _ _⟩
end
end Lw
namespace Mi
open PySem PySem.Spec PyProof.Rows L2
theorem w_ienum {ms : Ev → M (List D)} {env : Ev} {G : Gh} {E : Nat → Gh → Prop} {Qm : Im → Gh → Prop} : (iEnum' ms env G).sat Qm E ↔ (ms env G).sat (fun ds G1 => imQ (enumI ds G1) fun it => Qm it G1) E := by
  unfold iEnum'
  rw [w_bind]
  cases ms env G with
  | ok d G1 =>
    show Rs.sat (match enumI d G1 with | some it => Rs.ok it G1 | none => .no) _ _ ↔ imQ (enumI d G1) _
    cases enumI d G1 <;> exact Iff.rfl
  | _ => exact Iff.rfl
theorem enum_sat {l : Nat} {xs : List D} {t : Tm} {s : Sm} {env : Ev} {G : Gh} {q : Pq} (hl : G.ob l = .lst xs) (P : Nat → Ev → Gh → Prop) (h0 : P 0 env G) (hs : ∀ i e G, P i e G → G.ob l = .lst xs)
    (turn : ∀ (i : Nat) d e G, xs[i]? = some d → P i e G → evQ (t (.tup [.int (i : Int), d]) G e) fun e1 => (s e1 G).sat ⟨P (i + 1), q.rt, q.er, q.nx, P (i + 1)⟩) (done : ∀ e G, P xs.length e G → q.nx e G) :
    imQ (enumI [.ref l] G) fun it => (loopR it t s it.n 0 env G).sat q := by
  unfold enumI
  dsimp only
  rw [hl]
  refine loop_sat (xs := xs.mapIdx fun (i : Nat) d => D.tup [.int (i : Int), d]) P (fun i e G _ p => ?_) (fun i d e G hd p => ?_) (fun e G p => done e G (by simpa using p)) _ 0 env G (by simp) h0
  · show (match G.ob l with | .lst xs => some (xs[i]?.map fun d => D.tup [.int (i : Int), d]) | _ => none) = _
    rw [hs i e G p, List.getElem?_mapIdx]
  · rw [List.getElem?_mapIdx] at hd
    obtain ⟨x, h1, rfl⟩ := Option.map_eq_some_iff.mp hd
    exact turn i x e G h1 p
end Mi
namespace Lw
open PySem PySem.Spec PyProof.Rows L2 Mi
/-! k50: all expire -/
def exq (day : Int) (z : Oz) : Bool := opnB z.x.st && decide (z.x.un < day)
def exz (day : Int) (z : Oz) : Oz := if exq day z = true then { z with x := { z.x with st := "expired" } } else z
def nT (day : Int) (os : List Oz) : Nat → List Int
  | 0 => []
  | k + 1 => nT day os k ++ (match os[k]? with
    | some z => if exq day z = true then [(k : Int) + 1] else []
    | none => [])
theorem nT_len (day : Int) (os : List Oz) : ∀ k, (nT day os k).length ≤ k
  | 0 => Nat.le_refl _
  | k + 1 => by
    rw [nT, List.length_append]
    have := nT_len day os k
    split
    · split
      · rw [List.length_singleton]; omega
      · rw [List.length_nil]; omega
    · rw [List.length_nil]; omega
theorem exz_id (day : Int) (z : Oz) : (exz day z).id = z.id ∧ (exz day z).ll = z.ll ∧ (exz day z).lg = z.lg ∧ (exz day z).gs = z.gs := by
  unfold exz
  split <;> exact ⟨rfl, rfl, rfl, rfl⟩
section
variable {B : Nat} {G G' : Gh} {U o rl du : Nat} {us : List Str} {kro kn : List (Key × D)} {r : Int × Str} {os : List Oz} {N : Nat} {by_ : Str} {n day : Int}
theorem due_expire (hdu : G.ob du = .lst (os.map fun z => .ref z.ll)) (hdl : du < G.n) (hd2 : ∀ z ∈ os, z.ll ≠ du) (hz : ∀ z ∈ os, G.ob z.ll = .lst (lawL z)) (hl : ∀ z ∈ os, z.ll < G.n) (nll : (os.map fun z => z.ll).Nodup) (hlen : os.length ≤ 1000) :
    ∃ G', m_law_due [.ref du, .str "expire", .str by_, .int n, .int day, .ref rl] G = .ok (.ref G.n) G' ∧ G'.ob G.n = .lst ((nT day os os.length).map D.int) ∧ (∀ j, j < G.n → (∀ z ∈ os, j ≠ z.ll) → G'.ob j = G.ob j) ∧ (∀ z ∈ os, G'.ob z.ll = .lst (lawL (exz day z))) ∧ G.n < G'.n := by
  have key : (m_law_due [.ref du, .str "expire", .str by_, .int n, .int day, .ref rl] G).sat (fun d G' => d = .ref G.n ∧ G'.ob G.n = .lst ((nT day os os.length).map D.int) ∧ (∀ j, j < G.n → (∀ z ∈ os, j ≠ z.ll) → G'.ob j = G.ob j) ∧ (∀ z ∈ os, G'.ob z.ll = .lst (lawL (exz day z))) ∧ G.n < G'.n) nE := by
    unfold m_law_due b_law_due
    rw [w_fun]
    refine ⟨rfl, ?_⟩
    rw [q_law_due_4, w_seq]; simp only [w_ok, w_c, w_v, w_op, w_un, w_b, w_nil, w_cons, w_call, w_tup, w_lst, w_dct0, w_fld, w_meth, w_make, w_mt, w_get2, w_tru, w_asB, w_not, w_and, w_or, w_chain, w_andV, w_orV, w_notV, w_if, w_isi, w_pNone, w_pSome, w_sl, w_nx, w_brk, w_cnt, w_drop, w_ret, w_retN, w_sif, w_raise, gmN, gmT, gmAll, w_asg, w_sfld, w_ssub, w_saug, w_for, w_iseq, w_irng1, w_irng2, slotQ_some, opQ_some, opD_some, getQ_some, opB_some, blQ_bl, tyQ_some, inQ_int, evQ_some, ghQ_some, List.getElem?_cons_zero, List.getElem?_cons_succ, List.set_cons_zero, List.set_cons_succ, List.map_cons, List.map_nil, List.cons_append, List.nil_append, List.replicate, List.length_cons, List.length_nil, o_add, o_sub, o_lt, o_le, o_gt, o_ge, o_les, o_eq, o_ne, o_eqs, o_nes, o_eqb, o_neb, o_is, o_isNot, o_iadd, o_neg, b_int, b_min, b_max, sd_expire_expire, if_true]
    rw [q_law_due_2, w_seq]; simp only [w_ok, w_c, w_v, w_op, w_un, w_b, w_nil, w_cons, w_call, w_tup, w_lst, w_dct0, w_fld, w_meth, w_make, w_mt, w_get2, w_tru, w_asB, w_not, w_and, w_or, w_chain, w_andV, w_orV, w_notV, w_if, w_isi, w_pNone, w_pSome, w_sl, w_nx, w_brk, w_cnt, w_drop, w_ret, w_retN, w_sif, w_raise, gmN, gmT, gmAll, w_asg, w_sfld, w_ssub, w_saug, w_for, w_iseq, w_irng1, w_irng2, slotQ_some, opQ_some, opD_some, getQ_some, opB_some, blQ_bl, tyQ_some, inQ_int, evQ_some, ghQ_some, List.getElem?_cons_zero, List.getElem?_cons_succ, List.set_cons_zero, List.set_cons_succ, List.map_cons, List.map_nil, List.cons_append, List.nil_append, List.replicate, List.length_cons, List.length_nil, o_add, o_sub, o_lt, o_le, o_gt, o_ge, o_les, o_eq, o_ne, o_eqs, o_nes, o_eqb, o_neb, o_is, o_isNot, o_iadd, o_neg, b_int, b_min, b_max]
    refine ⟨Nat.zero_le _, ?_⟩
    have f0 := Mi.Fr.push G (.lst [])
    have hl0 : lenD (.ref du) (G.push (.lst [])) = some os.length := (len_lst ((f0.2 _ hdl).trans hdu)).trans (by rw [List.length_map])
    rw [q_law_due_3, w_seq]; simp only [w_ok, w_c, w_v, w_op, w_un, w_b, w_nil, w_cons, w_call, w_tup, w_lst, w_dct0, w_fld, w_meth, w_make, w_mt, w_get2, w_tru, w_asB, w_not, w_and, w_or, w_chain, w_andV, w_orV, w_notV, w_if, w_isi, w_pNone, w_pSome, w_sl, w_nx, w_brk, w_cnt, w_drop, w_ret, w_retN, w_sif, w_raise, gmN, gmT, gmAll, w_asg, w_sfld, w_ssub, w_saug, w_for, w_iseq, w_irng1, w_irng2, slotQ_some, opQ_some, opD_some, getQ_some, opB_some, blQ_bl, tyQ_some, inQ_int, evQ_some, ghQ_some, List.getElem?_cons_zero, List.getElem?_cons_succ, List.set_cons_zero, List.set_cons_succ, List.map_cons, List.map_nil, List.cons_append, List.nil_append, List.replicate, List.length_cons, List.length_nil, o_add, o_sub, o_lt, o_le, o_gt, o_ge, o_les, o_eq, o_ne, o_eqs, o_nes, o_eqb, o_neb, o_is, o_isNot, o_iadd, o_neg, b_int, b_min, b_max, b_len hl0, rng1]
    refine rng_sat ⟨by omega⟩ (fun k e G' => ∃ (y7 : Option D), e = [some (.ref du), some (.str "expire"), some (.str by_), some (.int n), some (.int day), some (.ref rl), some (.ref G.n), y7, none] ∧ G'.ob G.n = .lst ((nT day os k).map D.int) ∧ (∀ j, j < G.n → (∀ z ∈ os, j ≠ z.ll) → G'.ob j = G.ob j) ∧ (∀ (i : Nat) z, os[i]? = some z → G'.ob z.ll = .lst (lawL (if i < k then exz day z else z))) ∧ G.n < G'.n)
      ⟨none, rfl, ob_push_same _ _, fun j hj _ => f0.2 j hj, fun i z hi => ?_, by rw [n_push]; omega⟩ ?_ ?_
    · rw [if_neg (by omega)]
      have hm := List.mem_of_getElem? hi
      exact (f0.2 _ (hl z hm)).trans (hz z hm)
    · rintro k e G' hk ⟨y7, rfl, h1, h2, h3, h4⟩
      have hk' : k < os.length := by omega
      obtain ⟨z, hi⟩ : ∃ z, os[k]? = some z := ⟨_, List.getElem?_eq_getElem hk'⟩
      have hm := List.mem_of_getElem? hi
      have hzk := h3 k z hi
      rw [if_neg (by omega)] at hzk
      have hdu' : G'.ob du = .lst (os.map fun z => .ref z.ll) := (h2 du hdl fun z hz e => hd2 z hz e.symm).trans hdu
      have ixd : opIx (.ref du) (.int (0 + (k : Int))) G' = some (.ref z.ll, G') := ix_lst hdu' (atI_get (by rw [List.getElem?_map, hi]; rfl))
      have hstep : nT day os (k + 1) = nT day os k ++ if exq day z = true then [(k : Int) + 1] else [] := by rw [nT, hi]
      have keep : ∀ y7 : Option D, exq day z = false → ∃ (y7' : Option D), ([some (.ref du), some (.str "expire"), some (.str by_), some (.int n), some (.int day), some (.ref rl), some (.ref G.n), y7, none] : Ev) = [some (.ref du), some (.str "expire"), some (.str by_), some (.int n), some (.int day), some (.ref rl), some (.ref G.n), y7', none] ∧ G'.ob G.n = .lst ((nT day os (k + 1)).map D.int) ∧ (∀ j, j < G.n → (∀ z ∈ os, j ≠ z.ll) → G'.ob j = G.ob j) ∧ (∀ (i : Nat) z, os[i]? = some z → G'.ob z.ll = .lst (lawL (if i < k + 1 then exz day z else z))) ∧ G.n < G'.n := fun y7 hq => by
        refine ⟨y7, rfl, ?_, h2, fun i z' hi' => ?_, h4⟩
        · rw [hstep, hq, if_neg (by decide), List.append_nil]; exact h1
        · by_cases hik : i = k
          · subst hik
            rw [hi] at hi'
            cases hi'
            rw [if_pos (by omega)]
            unfold exz
            rw [hq, if_neg (by decide)]
            exact hzk
          · have := h3 i z' hi'
            by_cases hlt : i < k
            · rw [if_pos hlt] at this; rw [if_pos (by omega)]; exact this
            · rw [if_neg hlt] at this; rw [if_neg (by omega)]; exact this
      simp only [w_ok, w_c, w_v, w_op, w_un, w_b, w_nil, w_cons, w_call, w_tup, w_lst, w_dct0, w_fld, w_meth, w_make, w_mt, w_get2, w_tru, w_asB, w_not, w_and, w_or, w_chain, w_andV, w_orV, w_notV, w_if, w_isi, w_pNone, w_pSome, w_sl, w_nx, w_brk, w_cnt, w_drop, w_ret, w_retN, w_sif, w_raise, gmN, gmT, gmAll, w_asg, w_sfld, w_ssub, w_saug, w_for, w_iseq, w_irng1, w_irng2, slotQ_some, opQ_some, opD_some, getQ_some, opB_some, blQ_bl, tyQ_some, inQ_int, evQ_some, ghQ_some, List.getElem?_cons_zero, List.getElem?_cons_succ, List.set_cons_zero, List.set_cons_succ, List.map_cons, List.map_nil, List.cons_append, List.nil_append, List.replicate, List.length_cons, List.length_nil, o_add, o_sub, o_lt, o_le, o_gt, o_ge, o_les, o_eq, o_ne, o_eqs, o_nes, o_eqb, o_neb, o_is, o_isNot, o_iadd, o_neg, b_int, b_min, b_max, ixd, lx hzk 8 _ rfl]
      refine ⟨by decide, ?_⟩
      cases hop : opnB z.x.st with
      | false =>
        simp only [in_open, hop, Bool.false_eq_true, if_false, w_ok, w_c, w_v, w_op, w_un, w_b, w_nil, w_cons, w_call, w_tup, w_lst, w_dct0, w_fld, w_meth, w_make, w_mt, w_get2, w_tru, w_asB, w_not, w_and, w_or, w_chain, w_andV, w_orV, w_notV, w_if, w_isi, w_pNone, w_pSome, w_sl, w_nx, w_brk, w_cnt, w_drop, w_ret, w_retN, w_sif, w_raise, gmN, gmT, gmAll, w_asg, w_sfld, w_ssub, w_saug, w_for, w_iseq, w_irng1, w_irng2, slotQ_some, opQ_some, opD_some, getQ_some, opB_some, blQ_bl, tyQ_some, inQ_int, evQ_some, ghQ_some, List.getElem?_cons_zero, List.getElem?_cons_succ, List.set_cons_zero, List.set_cons_succ, List.map_cons, List.map_nil, List.cons_append, List.nil_append, List.replicate, List.length_cons, List.length_nil]
        exact keep _ (by unfold exq; rw [hop]; rfl)
      | true =>
        simp only [in_open, hop, if_true, ixd, lx hzk 4 _ rfl, w_ok, w_c, w_v, w_op, w_un, w_b, w_nil, w_cons, w_call, w_tup, w_lst, w_dct0, w_fld, w_meth, w_make, w_mt, w_get2, w_tru, w_asB, w_not, w_and, w_or, w_chain, w_andV, w_orV, w_notV, w_if, w_isi, w_pNone, w_pSome, w_sl, w_nx, w_brk, w_cnt, w_drop, w_ret, w_retN, w_sif, w_raise, gmN, gmT, gmAll, w_asg, w_sfld, w_ssub, w_saug, w_for, w_iseq, w_irng1, w_irng2, slotQ_some, opQ_some, opD_some, getQ_some, opB_some, blQ_bl, tyQ_some, inQ_int, evQ_some, ghQ_some, List.getElem?_cons_zero, List.getElem?_cons_succ, List.set_cons_zero, List.set_cons_succ, List.map_cons, List.map_nil, List.cons_append, List.nil_append, List.replicate, List.length_cons, List.length_nil, o_add, o_sub, o_lt, o_le, o_gt, o_ge, o_les, o_eq, o_ne, o_eqs, o_nes, o_eqb, o_neb, o_is, o_isNot, o_iadd, o_neg, b_int, b_min, b_max]
        by_cases hday : z.x.un < day
        · have hq : exq day z = true := by unfold exq; rw [hop, decide_eq_true hday]; rfl
          simp only [decide_eq_true hday, if_true]
          have hgn : G.n ≠ z.ll := by have := hl z hm; omega
          have h1' : (G'.set z.ll (.lst (lawL { z with x := { z.x with st := "expired" } }))).ob G.n = .lst ((nT day os k).map D.int) := (ob_set_ne _ _ hgn).trans h1
          have ap : mAppend (.ref G.n) [.int (0 + (k : Int) + 1)] (G'.set z.ll (.lst (lawL { z with x := { z.x with st := "expired" } }))) = some (.non, (G'.set z.ll (.lst (lawL { z with x := { z.x with st := "expired" } }))).set G.n (.lst ((nT day os k).map D.int ++ [.int (0 + (k : Int) + 1)]))) := m_append h1' (sz2 (by have := nT_len day os k; rw [List.length_map]; omega))
          rw [q_law_due_1, w_seq]; simp only [w_ok, w_c, w_v, w_op, w_un, w_b, w_nil, w_cons, w_call, w_tup, w_lst, w_dct0, w_fld, w_meth, w_make, w_mt, w_get2, w_tru, w_asB, w_not, w_and, w_or, w_chain, w_andV, w_orV, w_notV, w_if, w_isi, w_pNone, w_pSome, w_sl, w_nx, w_brk, w_cnt, w_drop, w_ret, w_retN, w_sif, w_raise, gmN, gmT, gmAll, w_asg, w_sfld, w_ssub, w_saug, w_for, w_iseq, w_irng1, w_irng2, slotQ_some, opQ_some, opD_some, getQ_some, opB_some, blQ_bl, tyQ_some, inQ_int, evQ_some, ghQ_some, List.getElem?_cons_zero, List.getElem?_cons_succ, List.set_cons_zero, List.set_cons_succ, List.map_cons, List.map_nil, List.cons_append, List.nil_append, List.replicate, List.length_cons, List.length_nil, o_add, o_sub, o_lt, o_le, o_gt, o_ge, o_les, o_eq, o_ne, o_eqs, o_nes, o_eqb, o_neb, o_is, o_isNot, o_iadd, o_neg, b_int, b_min, b_max, ixd, ls8 hzk, isLst_of h1', true_and, ap]
          refine ⟨_, rfl, ?_, fun j hj hn => ?_, fun i z' hi' => ?_, h4⟩
          · rw [ob_set_same, hstep, hq, if_pos rfl, List.map_append, Int.zero_add]; rfl
          · rw [ob_set_ne _ _ (by omega), ob_set_ne _ _ (hn z hm)]; exact h2 j hj hn
          · have hm' := List.mem_of_getElem? hi'
            rw [ob_set_ne _ _ (by have := hl z' hm'; omega)]
            by_cases hik : i = k
            · subst hik
              rw [hi] at hi'
              cases hi'
              rw [if_pos (by omega), ob_set_same]
              unfold exz
              rw [hq, if_pos rfl]
            · rw [ob_set_ne _ _ (fun e => hik (nodup_at nll hi' hi e))]
              have := h3 i z' hi'
              by_cases hlt : i < k
              · rw [if_pos hlt] at this; rw [if_pos (by omega)]; exact this
              · rw [if_neg hlt] at this; rw [if_neg (by omega)]; exact this
        · simp only [decide_eq_false hday, Bool.false_eq_true, if_false]
          exact keep _ (by unfold exq; rw [hop, decide_eq_false hday]; rfl)
    · rintro e G' ⟨y7, rfl, h1, h2, h3, h4⟩
      rw [show ((os.length : Int) - 0).toNat = os.length by omega] at h1 h3
      dsimp only
      simp only [w_ok, w_c, w_v, w_op, w_un, w_b, w_nil, w_cons, w_call, w_tup, w_lst, w_dct0, w_fld, w_meth, w_make, w_mt, w_get2, w_tru, w_asB, w_not, w_and, w_or, w_chain, w_andV, w_orV, w_notV, w_if, w_isi, w_pNone, w_pSome, w_sl, w_nx, w_brk, w_cnt, w_drop, w_ret, w_retN, w_sif, w_raise, gmN, gmT, gmAll, w_asg, w_sfld, w_ssub, w_saug, w_for, w_iseq, w_irng1, w_irng2, slotQ_some, opQ_some, opD_some, getQ_some, opB_some, blQ_bl, tyQ_some, inQ_int, evQ_some, ghQ_some, List.getElem?_cons_zero, List.getElem?_cons_succ, List.set_cons_zero, List.set_cons_succ, List.map_cons, List.map_nil, List.cons_append, List.nil_append, List.replicate, List.length_cons, List.length_nil, o_add, o_sub, o_lt, o_le, o_gt, o_ge, o_les, o_eq, o_ne, o_eqs, o_nes, o_eqb, o_neb, o_is, o_isNot, o_iadd, o_neg, b_int, b_min, b_max]
      refine ⟨(by first | rfl | trivial), h1, h2, fun z hz => ?_, h4⟩
      obtain ⟨i, hi⟩ := List.mem_iff_getElem?.mp hz
      have := h3 i z hi
      rw [if_pos (List.getElem?_eq_some_iff.mp hi).1] at this
      exact this
  obtain ⟨d, G', e, rfl, h⟩ := Rs.ok_of key
  exact ⟨G', e, h⟩
theorem prog_expire (ho : G.ob o = .ins 9 (ordsF o)) (hpl : G.ob (o + 3) = .lst (os.map fun z => .ref z.id)) (holt : o + 4 < G.n) (hd2 : ∀ z ∈ os, z.id ≠ o + 3) (hz : ∀ z ∈ os, G.ob z.id = .ins 8 (ordF z.x (z.id + 1))) (hl : ∀ z ∈ os, z.id < G.n) (nid : (os.map fun z => z.id).Nodup) (hlen : os.length ≤ 1000) :
    ∃ G', m_Orders_expire [.ref o, .int day] G = .ok (.ref G.n) G' ∧ G'.ob G.n = .lst ((nT day os os.length).map D.int) ∧ (∀ j, j < G.n → (∀ z ∈ os, j ≠ z.id) → G'.ob j = G.ob j) ∧ (∀ z ∈ os, G'.ob z.id = .ins 8 (ordF (exz day z).x (z.id + 1))) ∧ G.n < G'.n := by
  have key : (m_Orders_expire [.ref o, .int day] G).sat (fun d G' => d = .ref G.n ∧ G'.ob G.n = .lst ((nT day os os.length).map D.int) ∧ (∀ j, j < G.n → (∀ z ∈ os, j ≠ z.id) → G'.ob j = G.ob j) ∧ (∀ z ∈ os, G'.ob z.id = .ins 8 (ordF (exz day z).x (z.id + 1))) ∧ G.n < G'.n) nE := by
    unfold m_Orders_expire b_Orders_expire
    rw [w_fun]
    refine ⟨rfl, ?_⟩
    rw [q_Orders_expire_2, w_seq]; simp only [w_ok, w_c, w_v, w_op, w_un, w_b, w_nil, w_cons, w_call, w_tup, w_lst, w_dct0, w_fld, w_meth, w_make, w_mt, w_get2, w_tru, w_asB, w_not, w_and, w_or, w_chain, w_andV, w_orV, w_notV, w_if, w_isi, w_pNone, w_pSome, w_sl, w_nx, w_brk, w_cnt, w_drop, w_ret, w_retN, w_sif, w_raise, gmN, gmT, gmAll, w_asg, w_sfld, w_ssub, w_saug, w_for, w_iseq, w_irng1, w_irng2, slotQ_some, opQ_some, opD_some, getQ_some, opB_some, blQ_bl, tyQ_some, inQ_int, evQ_some, ghQ_some, List.getElem?_cons_zero, List.getElem?_cons_succ, List.set_cons_zero, List.set_cons_succ, List.map_cons, List.map_nil, List.cons_append, List.nil_append, List.replicate, List.length_cons, List.length_nil, o_add, o_sub, o_lt, o_le, o_gt, o_ge, o_les, o_eq, o_ne, o_eqs, o_nes, o_eqb, o_neb, o_is, o_isNot, o_iadd, o_neg, b_int, b_min, b_max]
    refine ⟨Nat.zero_le _, ?_⟩
    have f0 := Mi.Fr.push G (.lst [])
    have ho0 := (f0.2 _ (by omega)).trans ho
    have hpl0 := (f0.2 _ (by omega)).trans hpl
    rw [q_Orders_expire_3, w_seq, w_for, w_ienum]
    simp only [w_cons, w_nil, w_fld, w_v, List.getElem?_cons_zero, List.getElem?_cons_succ, slotQ_some, g11 ho0, opD_some]
    refine enum_sat hpl0 (fun k e G' => ∃ (y3 y4 : Option D), e = [some (.ref o), some (.int day), some (.ref G.n), y3, y4] ∧ G'.ob (o + 3) = .lst (os.map fun z => .ref z.id) ∧ G'.ob G.n = .lst ((nT day os k).map D.int) ∧ (∀ j, j < G.n → (∀ z ∈ os, j ≠ z.id) → G'.ob j = G.ob j) ∧ (∀ (i : Nat) z, os[i]? = some z → G'.ob z.id = .ins 8 (ordF (if i < k then exz day z else z).x (z.id + 1))) ∧ G.n < G'.n)
      ⟨none, none, rfl, hpl0, ob_push_same _ _, fun j hj _ => f0.2 j hj, fun i z hi => ?_, by rw [n_push]; omega⟩ (fun i e G' p => ?_) ?_ ?_
    · rw [if_neg (by omega)]
      have hm := List.mem_of_getElem? hi
      exact (f0.2 _ (hl z hm)).trans (hz z hm)
    · obtain ⟨_, _, _, h, _⟩ := p
      exact h
    · rintro k d e G' hd ⟨y3, y4, rfl, h0, h1, h2, h3, h4⟩
      rw [List.getElem?_map] at hd
      obtain ⟨z, hi, rfl⟩ := Option.map_eq_some_iff.mp hd
      have hk' : k < os.length := (List.getElem?_eq_some_iff.mp hi).1
      have hm := List.mem_of_getElem? hi
      have hzk := h3 k z hi
      rw [if_neg (by omega)] at hzk
      have hstep : nT day os (k + 1) = nT day os k ++ if exq day z = true then [(k : Int) + 1] else [] := by rw [nT, hi]
      have keep : ∀ y3 y4 : Option D, exq day z = false → ∃ (y3' y4' : Option D), ([some (.ref o), some (.int day), some (.ref G.n), y3, y4] : Ev) = [some (.ref o), some (.int day), some (.ref G.n), y3', y4'] ∧ G'.ob (o + 3) = .lst (os.map fun z => .ref z.id) ∧ G'.ob G.n = .lst ((nT day os (k + 1)).map D.int) ∧ (∀ j, j < G.n → (∀ z ∈ os, j ≠ z.id) → G'.ob j = G.ob j) ∧ (∀ (i : Nat) z, os[i]? = some z → G'.ob z.id = .ins 8 (ordF (if i < k + 1 then exz day z else z).x (z.id + 1))) ∧ G.n < G'.n := fun y3 y4 hq => by
        refine ⟨y3, y4, rfl, h0, ?_, h2, fun i z' hi' => ?_, h4⟩
        · rw [hstep, hq, if_neg (by decide), List.append_nil]; exact h1
        · by_cases hik : i = k
          · subst hik
            rw [hi] at hi'
            cases hi'
            rw [if_pos (by omega)]
            unfold exz
            rw [hq, if_neg (by decide)]
            exact hzk
          · have := h3 i z' hi'
            by_cases hlt : i < k
            · rw [if_pos hlt] at this; rw [if_pos (by omega)]; exact this
            · rw [if_neg hlt] at this; rw [if_neg (by omega)]; exact this
      simp only [w_ok, w_c, w_v, w_op, w_un, w_b, w_nil, w_cons, w_call, w_tup, w_lst, w_dct0, w_fld, w_meth, w_make, w_mt, w_get2, w_tru, w_asB, w_not, w_and, w_or, w_chain, w_andV, w_orV, w_notV, w_if, w_isi, w_pNone, w_pSome, w_sl, w_nx, w_brk, w_cnt, w_drop, w_ret, w_retN, w_sif, w_raise, gmN, gmT, gmAll, w_asg, w_sfld, w_ssub, w_saug, w_for, w_iseq, w_irng1, w_irng2, slotQ_some, opQ_some, opD_some, getQ_some, opB_some, blQ_bl, tyQ_some, inQ_int, evQ_some, ghQ_some, List.getElem?_cons_zero, List.getElem?_cons_succ, List.set_cons_zero, List.set_cons_succ, List.map_cons, List.map_nil, List.cons_append, List.nil_append, List.replicate, List.length_cons, List.length_nil, o_add, o_sub, o_lt, o_le, o_gt, o_ge, o_les, o_eq, o_ne, o_eqs, o_nes, o_eqb, o_neb, o_is, o_isNot, o_iadd, o_neg, b_int, b_min, b_max, fz hzk 8 _ rfl rfl]
      refine ⟨by decide, ?_⟩
      cases hop : opnB z.x.st with
      | false =>
        simp only [in_open, hop, Bool.false_eq_true, if_false, w_ok, w_c, w_v, w_op, w_un, w_b, w_nil, w_cons, w_call, w_tup, w_lst, w_dct0, w_fld, w_meth, w_make, w_mt, w_get2, w_tru, w_asB, w_not, w_and, w_or, w_chain, w_andV, w_orV, w_notV, w_if, w_isi, w_pNone, w_pSome, w_sl, w_nx, w_brk, w_cnt, w_drop, w_ret, w_retN, w_sif, w_raise, gmN, gmT, gmAll, w_asg, w_sfld, w_ssub, w_saug, w_for, w_iseq, w_irng1, w_irng2, slotQ_some, opQ_some, opD_some, getQ_some, opB_some, blQ_bl, tyQ_some, inQ_int, evQ_some, ghQ_some, List.getElem?_cons_zero, List.getElem?_cons_succ, List.set_cons_zero, List.set_cons_succ, List.map_cons, List.map_nil, List.cons_append, List.nil_append, List.replicate, List.length_cons, List.length_nil]
        exact keep _ _ (by unfold exq; rw [hop]; rfl)
      | true =>
        simp only [in_open, hop, if_true, fz hzk 4 _ rfl rfl, w_ok, w_c, w_v, w_op, w_un, w_b, w_nil, w_cons, w_call, w_tup, w_lst, w_dct0, w_fld, w_meth, w_make, w_mt, w_get2, w_tru, w_asB, w_not, w_and, w_or, w_chain, w_andV, w_orV, w_notV, w_if, w_isi, w_pNone, w_pSome, w_sl, w_nx, w_brk, w_cnt, w_drop, w_ret, w_retN, w_sif, w_raise, gmN, gmT, gmAll, w_asg, w_sfld, w_ssub, w_saug, w_for, w_iseq, w_irng1, w_irng2, slotQ_some, opQ_some, opD_some, getQ_some, opB_some, blQ_bl, tyQ_some, inQ_int, evQ_some, ghQ_some, List.getElem?_cons_zero, List.getElem?_cons_succ, List.set_cons_zero, List.set_cons_succ, List.map_cons, List.map_nil, List.cons_append, List.nil_append, List.replicate, List.length_cons, List.length_nil, o_add, o_sub, o_lt, o_le, o_gt, o_ge, o_les, o_eq, o_ne, o_eqs, o_nes, o_eqb, o_neb, o_is, o_isNot, o_iadd, o_neg, b_int, b_min, b_max]
        by_cases hday : z.x.un < day
        · have hq : exq day z = true := by unfold exq; rw [hop, decide_eq_true hday]; rfl
          simp only [decide_eq_true hday, if_true]
          have hgn : G.n ≠ z.id := by have := hl z hm; omega
          have h1' : (G'.set z.id (.ins 8 (ordF { z.x with st := "expired" } (z.id + 1)))).ob G.n = .lst ((nT day os k).map D.int) := (ob_set_ne _ _ hgn).trans h1
          have ap : mAppend (.ref G.n) [.int ((k : Int) + 1)] (G'.set z.id (.ins 8 (ordF { z.x with st := "expired" } (z.id + 1)))) = some (.non, (G'.set z.id (.ins 8 (ordF { z.x with st := "expired" } (z.id + 1)))).set G.n (.lst ((nT day os k).map D.int ++ [.int ((k : Int) + 1)]))) := m_append h1' (sz2 (by have := nT_len day os k; rw [List.length_map]; omega))
          rw [q_Orders_expire_1, w_seq]; simp only [w_ok, w_c, w_v, w_op, w_un, w_b, w_nil, w_cons, w_call, w_tup, w_lst, w_dct0, w_fld, w_meth, w_make, w_mt, w_get2, w_tru, w_asB, w_not, w_and, w_or, w_chain, w_andV, w_orV, w_notV, w_if, w_isi, w_pNone, w_pSome, w_sl, w_nx, w_brk, w_cnt, w_drop, w_ret, w_retN, w_sif, w_raise, gmN, gmT, gmAll, w_asg, w_sfld, w_ssub, w_saug, w_for, w_iseq, w_irng1, w_irng2, slotQ_some, opQ_some, opD_some, getQ_some, opB_some, blQ_bl, tyQ_some, inQ_int, evQ_some, ghQ_some, List.getElem?_cons_zero, List.getElem?_cons_succ, List.set_cons_zero, List.set_cons_succ, List.map_cons, List.map_nil, List.cons_append, List.nil_append, List.replicate, List.length_cons, List.length_nil, o_add, o_sub, o_lt, o_le, o_gt, o_ge, o_les, o_eq, o_ne, o_eqs, o_nes, o_eqb, o_neb, o_is, o_isNot, o_iadd, o_neg, b_int, b_min, b_max, setst hzk, isLst_of h1', true_and, ap]
          refine ⟨_, _, rfl, ?_, ?_, fun j hj hn => ?_, fun i z' hi' => ?_, h4⟩
          · rw [ob_set_ne _ _ (by omega), ob_set_ne _ _ (fun e => hd2 z hm e.symm)]; exact h0
          · rw [ob_set_same, hstep, hq, if_pos rfl, List.map_append]; rfl
          · rw [ob_set_ne _ _ (by omega), ob_set_ne _ _ (hn z hm)]; exact h2 j hj hn
          · have hm' := List.mem_of_getElem? hi'
            rw [ob_set_ne _ _ (by have := hl z' hm'; omega)]
            by_cases hik : i = k
            · subst hik
              rw [hi] at hi'
              cases hi'
              rw [if_pos (by omega), ob_set_same]
              unfold exz
              rw [hq, if_pos rfl]
            · rw [ob_set_ne _ _ (fun e => hik (nodup_at nid hi' hi e))]
              have := h3 i z' hi'
              by_cases hlt : i < k
              · rw [if_pos hlt] at this; rw [if_pos (by omega)]; exact this
              · rw [if_neg hlt] at this; rw [if_neg (by omega)]; exact this
        · simp only [decide_eq_false hday, Bool.false_eq_true, if_false]
          exact keep _ _ (by unfold exq; rw [hop, decide_eq_false hday]; rfl)
    · rintro e G' ⟨y3, y4, rfl, h0, h1, h2, h3, h4⟩
      rw [List.length_map] at h1 h3
      dsimp only
      simp only [w_ok, w_c, w_v, w_op, w_un, w_b, w_nil, w_cons, w_call, w_tup, w_lst, w_dct0, w_fld, w_meth, w_make, w_mt, w_get2, w_tru, w_asB, w_not, w_and, w_or, w_chain, w_andV, w_orV, w_notV, w_if, w_isi, w_pNone, w_pSome, w_sl, w_nx, w_brk, w_cnt, w_drop, w_ret, w_retN, w_sif, w_raise, gmN, gmT, gmAll, w_asg, w_sfld, w_ssub, w_saug, w_for, w_iseq, w_irng1, w_irng2, slotQ_some, opQ_some, opD_some, getQ_some, opB_some, blQ_bl, tyQ_some, inQ_int, evQ_some, ghQ_some, List.getElem?_cons_zero, List.getElem?_cons_succ, List.set_cons_zero, List.set_cons_succ, List.map_cons, List.map_nil, List.cons_append, List.nil_append, List.replicate, List.length_cons, List.length_nil, o_add, o_sub, o_lt, o_le, o_gt, o_ge, o_les, o_eq, o_ne, o_eqs, o_nes, o_eqb, o_neb, o_is, o_isNot, o_iadd, o_neg, b_int, b_min, b_max]
      refine ⟨(by first | rfl | trivial), h1, h2, fun z hz => ?_, h4⟩
      obtain ⟨i, hi⟩ := List.mem_iff_getElem?.mp hz
      have := h3 i z hi
      rw [if_pos (List.getElem?_eq_some_iff.mp hi).1] at this
      exact this
  obtain ⟨d, G', e, rfl, h⟩ := Rs.ok_of key
  exact ⟨G', e, h⟩
theorem nw_expired : ("expired" : Str) ≠ "waiting" := by decide +kernel
theorem agr_expire (W : Wz B G U o rl du us kro r kn os N) (hN : N ≤ 900) (by_ : Str) (n day : Int) : ∃ (l1 l2 : Nat) (xs : List Int) (G1 G2 : Gh) (os' : List Oz), m_law_due [.ref du, .str "expire", .str by_, .int n, .int day, .ref rl] G = .ok (.ref l1) G1 ∧ m_law_call [.ref o, .str "expire", .str by_, .int n, .int day] G1 = .ok (.ref l2) G2 ∧
    G2.ob l1 = .lst (xs.map D.int) ∧ G2.ob l2 = .lst (xs.map D.int) ∧ xs.length ≤ 1000 ∧ Wz B G2 U o rl du us kro r kn os' (N + 1) ∧ os'.length = os.length ∧ ∀ j, j < B → G2.ob j = G.ob j := by
  obtain ⟨l1, l2, l3, l4, l5⟩ := W.lt
  have hlen := W.len.1
  have ltz := W.hlt
  unfold LtZ at ltz
  obtain ⟨G1, e1, a1, a2, a3, a4⟩ := due_expire (by_ := by_) (n := n) (day := day) (rl := rl) W.hdu (by omega) (fun z hz => by have := ltz z hz; omega) (fun z hz => (W.hos z hz).2.2.1) (fun z hz => (ltz z hz).2.2.2.1) W.nll (by omega)
  have nl : ∀ j, j < B → ∀ z ∈ os, j ≠ z.ll := fun j hj z hz => by have := ltz z hz; omega
  have ni : ∀ j, j < B → ∀ z ∈ os, j ≠ z.id := fun j hj z hz => by have := ltz z hz; omega
  have ho1 := (a2 o (by omega) (nl _ (by omega))).trans W.ho
  have hid1 : ∀ z ∈ os, G1.ob z.id = G.ob z.id := fun z hz => a2 _ (by have := ltz z hz; omega) fun y hy e => (W.dis y hy z hz).1 e.symm
  obtain ⟨G2, e2, b1, b2, b3, b4⟩ := prog_expire (day := day) ho1 ((a2 _ (by omega) (nl _ (by omega))).trans W.hpl) (by omega) (fun z hz => by have := ltz z hz; omega) (fun z hz => (hid1 z hz).trans (W.hos z hz).1) (fun z hz => by have := ltz z hz; omega) W.nid (by omega)
  have low : ∀ j, j < B → G2.ob j = G.ob j := fun j hj => (b2 j (by omega) (ni j hj)).trans (a2 j (by omega) (nl j hj))
  refine ⟨G.n, G1.n, nT day os os.length, G1, G2, os.map (exz day), e1, call_expire_ok ho1 e2, ?_, b1, Nat.le_trans (nT_len day os os.length) (by omega), W.upd (os.map (exz day)) ?_ ?_ (by omega) low (fun y hy => ?_) (fun y hy => ?_) (fun y hy => ?_), List.length_map .., low⟩
  · rw [b2 _ a4 fun z hz e => by have := ltz z hz; omega]; exact a1
  · rw [List.map_map]
    exact List.map_congr_left fun z _ => (exz_id day z).1
  · rw [List.map_map]
    exact List.map_congr_left fun z _ => (exz_id day z).2.1
  · obtain ⟨z, hz, rfl⟩ := List.mem_map.mp hy
    obtain ⟨i1, i2, i3, i4⟩ := exz_id day z
    obtain ⟨c1, c2, c3, c4⟩ := W.hos z hz
    have tz := ltz z hz
    unfold ObZ
    rw [i1, i2, i3, i4]
    refine ⟨b3 z hz, ?_, ?_, ?_⟩
    · rw [b2 _ (by omega) fun y hy e => (W.dis y hy z hz).2.2.2.2.2 e.symm, a2 _ (by omega) fun y hy e => (W.dis y hy z hz).2.1 e.symm]; exact c2
    · rw [b2 _ (by omega) fun y hy e => (W.dis z hz y hy).1 e]; exact a3 z hz
    · rw [b2 _ (by omega) fun y hy e => (W.dis y hy z hz).2.2.2.1 e.symm, a2 _ (by omega) fun y hy e => (W.dis y hy z hz).2.2.1 e.symm]; exact c4
  · obtain ⟨z, hz, rfl⟩ := List.mem_map.mp hy
    exact .inl ⟨z, hz, (exz_id day z).2.2.1⟩
  · obtain ⟨z, hz, rfl⟩ := List.mem_map.mp hy
    obtain ⟨g1, g2, g3⟩ := W.hgd z hz
    refine ⟨?_, ?_, ?_⟩
    · unfold exz; split <;> exact g1
    · unfold exz
      split
      · exact fun e => absurd e nw_expired
      · exact g2
    · rw [(exz_id day z).2.2.2]; omega
end
end Lw
namespace Lw
open PySem PySem.Spec PyProof.Rows L2 Mi
/-! k50: the orders stand alike; an order is placed; a rule -/
theorem same_oz (z : Oz) (p : Nat) (G : Gh) (h1 : G.ob p = .lst (z.gs.map D.str)) (h2 : G.ob z.lg = .lst (z.gs.map D.str)) (hz : z.gs.length ≤ 1000) (hro : z.x.ro = .non ∨ ∃ s, z.x.ro = .str s) : m_law_same 8 [.tup [.str z.x.mr, .str z.x.kd, .int z.x.am, .str z.x.ky, .int z.x.un, .int z.x.rq, z.x.ro, .ref p, .str z.x.st], .tup [.str z.x.mr, .str z.x.kd, .int z.x.am, .str z.x.ky, .int z.x.un, .int z.x.rq, z.x.ro, .ref z.lg, .str z.x.st]] G = .ok (.bl true) G := by
  refine same_tup 7 _ _ G rfl (by simp only [List.length_cons, List.length_nil]; omega) fun k a b e1 e2 => ?_
  rcases k with _ | _ | _ | _ | _ | _ | _ | _ | _ | k
  · cases e1; cases e2; exact same_str 6 _ G
  · cases e1; cases e2; exact same_str 6 _ G
  · cases e1; cases e2; exact same_int 6 _ G
  · cases e1; cases e2; exact same_str 6 _ G
  · cases e1; cases e2; exact same_int 6 _ G
  · cases e1; cases e2; exact same_int 6 _ G
  · cases e1; cases e2
    rcases hro with h | ⟨s, h⟩
    · rw [h]; exact same_non 6 G
    · rw [h]; exact same_str 6 s G
  · cases e1; cases e2
    refine same_lst 6 _ _ p z.lg G h1 h2 rfl (by rw [List.length_map]; omega) fun k x y e1 e2 => ?_
    have hxy : x = y := Option.some.inj (e1.symm.trans e2)
    subst hxy
    rw [List.getElem?_map] at e1
    obtain ⟨s, _, rfl⟩ := Option.map_eq_some_iff.mp e1
    exact same_str 5 s G
  · cases e1; cases e2; exact same_str 6 _ G
  · cases e1
theorem same_ints (n : Nat) (xs : List Int) (p p' : Nat) (G : Gh) (h1 : G.ob p = .lst (xs.map D.int)) (h2 : G.ob p' = .lst (xs.map D.int)) (hz : xs.length ≤ 1000) : m_law_same (n + 2) [.ref p, .ref p'] G = .ok (.bl true) G := by
  refine same_lst (n + 1) _ _ p p' G h1 h2 rfl (by rw [List.length_map]; omega) fun k x y e1 e2 => ?_
  have hxy : x = y := Option.some.inj (e1.symm.trans e2)
  subst hxy
  rw [List.getElem?_map] at e1
  obtain ⟨s, _, rfl⟩ := Option.map_eq_some_iff.mp e1
  exact same_int n s G
theorem good_one {r : Int × Str} (h : 0 ≤ r.1 ∧ r.1 ≤ 5 ∧ roleB r.2 = true) : goodB [(0, r.1, r.2)] = true := by
  unfold goodB
  rw [chk, chk, decide_eq_true h.1, decide_eq_true h.2.1, h.2.2]
  rfl
section
variable {B : Nat} {G G' : Gh} {U o rl du : Nat} {us : List Str} {kro kn : List (Key × D)} {r : Int × Str} {os : List Oz} {N : Nat}
theorem stand_ok (W : Wz B G U o rl du us kro r kn os N) (hN : N ≤ 900) : ∃ G', m_law_stand [.ref o, .ref du] G = .ok (.bl true) G' ∧ Wz B G' U o rl du us kro r kn os N ∧ ∀ j, j < B → G'.ob j = G.ob j := by
  have key : (m_law_stand [.ref o, .ref du] G).sat (fun d G' => d = .bl true ∧ Wz B G' U o rl du us kro r kn os N ∧ ∀ j, j < B → G'.ob j = G.ob j) nE := by
    unfold m_law_stand b_law_stand
    rw [w_fun]
    refine ⟨rfl, ?_⟩
    have hl0 := W.len.1
    have hlen : lenD (.ref du) G = some os.length := (len_lst W.hdu).trans (by rw [List.length_map])
    rw [q_law_stand_4, w_seq]; simp only [w_ok, w_c, w_v, w_op, w_un, w_b, w_nil, w_cons, w_call, w_tup, w_lst, w_dct0, w_fld, w_meth, w_make, w_mt, w_get2, w_tru, w_asB, w_not, w_and, w_or, w_chain, w_andV, w_orV, w_notV, w_if, w_isi, w_pNone, w_pSome, w_sl, w_nx, w_brk, w_cnt, w_drop, w_ret, w_retN, w_sif, w_raise, gmN, gmT, gmAll, w_asg, w_sfld, w_ssub, w_saug, w_for, w_iseq, w_irng1, w_irng2, slotQ_some, opQ_some, opD_some, getQ_some, opB_some, blQ_bl, tyQ_some, inQ_int, evQ_some, ghQ_some, List.getElem?_cons_zero, List.getElem?_cons_succ, List.set_cons_zero, List.set_cons_succ, List.map_cons, List.map_nil, List.cons_append, List.nil_append, List.replicate, List.length_cons, List.length_nil, o_add, o_sub, o_lt, o_le, o_gt, o_ge, o_les, o_eq, o_ne, o_eqs, o_nes, o_eqb, o_neb, o_is, o_isNot, o_iadd, o_neg, b_int, b_min, b_max, b_len hlen, rng1]
    refine rng_sat ⟨by omega⟩ (fun k e G1 => ∃ (y2 y3 y4 : Option D), e = [some (.ref o), some (.ref du), y2, y3, y4] ∧ Wz B G1 U o rl du us kro r kn os N ∧ ∀ j, j < B → G1.ob j = G.ob j) ⟨none, none, none, rfl, W, fun _ _ => rfl⟩ ?_ ?_
    · rintro k e G1 hk ⟨y2, y3, y4, rfl, W, hlow⟩
      have hk' : k < os.length := by omega
      obtain ⟨z, hi⟩ : ∃ z, os[k]? = some z := ⟨_, List.getElem?_eq_getElem hk'⟩
      have hm := List.mem_of_getElem? hi
      obtain ⟨o1, o2, o3, o4⟩ := W.hos z hm
      obtain ⟨t1, t2, t3, t4, t5, t6⟩ := W.hlt z hm
      obtain ⟨g1, g2, g3⟩ := W.hgd z hm
      have ixd : opIx (.ref du) (.int (0 + (k : Int))) G1 = some (.ref z.ll, G1) := ix_lst W.hdu (atI_get (by rw [List.getElem?_map, hi]; rfl))
      have e1 := order_eq (hid := by omega) W.ho W.hpl (n := k) (by rw [List.getElem?_map, hi]; rfl) o1 o2
      rw [show (k : Int) + 1 = 0 + (k : Int) + 1 by omega] at e1
      simp only [gmN, evQ_some, List.set_cons_succ, List.set_cons_zero]
      rw [q_law_stand_1, w_seq]; simp only [w_ok, w_c, w_v, w_op, w_un, w_b, w_nil, w_cons, w_call, w_tup, w_lst, w_dct0, w_fld, w_meth, w_make, w_mt, w_get2, w_tru, w_asB, w_not, w_and, w_or, w_chain, w_andV, w_orV, w_notV, w_if, w_isi, w_pNone, w_pSome, w_sl, w_nx, w_brk, w_cnt, w_drop, w_ret, w_retN, w_sif, w_raise, gmN, gmT, gmAll, w_asg, w_sfld, w_ssub, w_saug, w_for, w_iseq, w_irng1, w_irng2, slotQ_some, opQ_some, opD_some, getQ_some, opB_some, blQ_bl, tyQ_some, inQ_int, evQ_some, ghQ_some, List.getElem?_cons_zero, List.getElem?_cons_succ, List.set_cons_zero, List.set_cons_succ, List.map_cons, List.map_nil, List.cons_append, List.nil_append, List.replicate, List.length_cons, List.length_nil, o_add, o_sub, o_lt, o_le, o_gt, o_ge, o_les, o_eq, o_ne, o_eqs, o_nes, o_eqb, o_neb, o_is, o_isNot, o_iadd, o_neg, b_int, b_min, b_max, ixd, lx o3 0 _ rfl, lx o3 1 _ rfl, lx o3 2 _ rfl, lx o3 3 _ rfl, lx o3 4 _ rfl, lx o3 5 _ rfl, lx o3 6 _ rfl, lx o3 7 _ rfl, lx o3 8 _ rfl]
      refine ⟨by decide, ?_⟩
      rw [q_law_stand_2, w_seq]; simp only [w_ok, w_c, w_v, w_op, w_un, w_b, w_nil, w_cons, w_call, w_tup, w_lst, w_dct0, w_fld, w_meth, w_make, w_mt, w_get2, w_tru, w_asB, w_not, w_and, w_or, w_chain, w_andV, w_orV, w_notV, w_if, w_isi, w_pNone, w_pSome, w_sl, w_nx, w_brk, w_cnt, w_drop, w_ret, w_retN, w_sif, w_raise, gmN, gmT, gmAll, w_asg, w_sfld, w_ssub, w_saug, w_for, w_iseq, w_irng1, w_irng2, slotQ_some, opQ_some, opD_some, getQ_some, opB_some, blQ_bl, tyQ_some, inQ_int, evQ_some, ghQ_some, List.getElem?_cons_zero, List.getElem?_cons_succ, List.set_cons_zero, List.set_cons_succ, List.map_cons, List.map_nil, List.cons_append, List.nil_append, List.replicate, List.length_cons, List.length_nil, o_add, o_sub, o_lt, o_le, o_gt, o_ge, o_les, o_eq, o_ne, o_eqs, o_nes, o_eqb, o_neb, o_is, o_isNot, o_iadd, o_neg, b_int, b_min, b_max, insQ_of W.ho, e1]
      have f2 := Mi.Fr.push G1 (.lst (z.gs.map D.str))
      have W2 := W.fr f2
      have hp : (G1.push (.lst (z.gs.map D.str))).ob G1.n = .lst (z.gs.map D.str) := ob_push_same _ _
      have n2 : (G1.push (.lst (z.gs.map D.str))).n = G1.n + 1 := n_push _ _
      generalize G1.push (.lst (z.gs.map D.str)) = G2 at f2 W2 hp n2
      have sm := same_oz z G1.n G2 hp (W2.hos z hm).2.2.2 (by omega) g1
      have i7 : opIx (.tup [.str z.x.mr, .str z.x.kd, .int z.x.am, .str z.x.ky, .int z.x.un, .int z.x.rq, z.x.ro, .ref G1.n, .str z.x.st]) (.int 7) G2 = some (.ref G1.n, G2) := ix_tup rfl
      have ap : mAppend (.ref G1.n) [.str "spoilt"] G2 = some (.non, G2.set G1.n (.lst (z.gs.map D.str ++ [.str "spoilt"]))) := m_append hp (sz2 (by rw [List.length_map]; omega))
      rw [q_law_stand_3, w_seq]; simp only [w_ok, w_c, w_v, w_op, w_un, w_b, w_nil, w_cons, w_call, w_tup, w_lst, w_dct0, w_fld, w_meth, w_make, w_mt, w_get2, w_tru, w_asB, w_not, w_and, w_or, w_chain, w_andV, w_orV, w_notV, w_if, w_isi, w_pNone, w_pSome, w_sl, w_nx, w_brk, w_cnt, w_drop, w_ret, w_retN, w_sif, w_raise, gmN, gmT, gmAll, w_asg, w_sfld, w_ssub, w_saug, w_for, w_iseq, w_irng1, w_irng2, slotQ_some, opQ_some, opD_some, getQ_some, opB_some, blQ_bl, tyQ_some, inQ_int, evQ_some, ghQ_some, List.getElem?_cons_zero, List.getElem?_cons_succ, List.set_cons_zero, List.set_cons_succ, List.map_cons, List.map_nil, List.cons_append, List.nil_append, List.replicate, List.length_cons, List.length_nil, o_add, o_sub, o_lt, o_le, o_gt, o_ge, o_les, o_eq, o_ne, o_eqs, o_nes, o_eqb, o_neb, o_is, o_isNot, o_iadd, o_neg, b_int, b_min, b_max, sm, truD, Bool.not_true, Bool.false_eq_true, if_false, i7, isLst_of hp, true_and, ap]
      have hB := W.lt
      exact ⟨_, _, _, rfl, W.fr (f2.set _ (Nat.le_refl _)), fun j hj => by rw [ob_set_ne _ _ (by omega), f2.2 _ (by omega)]; exact hlow j hj⟩
    · rintro e G1 ⟨y2, y3, y4, rfl, W, hlow⟩
      try dsimp only
      try simp only [w_ok, w_c, w_v, w_op, w_un, w_b, w_nil, w_cons, w_call, w_tup, w_lst, w_dct0, w_fld, w_meth, w_make, w_mt, w_get2, w_tru, w_asB, w_not, w_and, w_or, w_chain, w_andV, w_orV, w_notV, w_if, w_isi, w_pNone, w_pSome, w_sl, w_nx, w_brk, w_cnt, w_drop, w_ret, w_retN, w_sif, w_raise, gmN, gmT, gmAll, w_asg, w_sfld, w_ssub, w_saug, w_for, w_iseq, w_irng1, w_irng2, slotQ_some, opQ_some, opD_some, getQ_some, opB_some, blQ_bl, tyQ_some, inQ_int, evQ_some, ghQ_some, List.getElem?_cons_zero, List.getElem?_cons_succ, List.set_cons_zero, List.set_cons_succ, List.map_cons, List.map_nil, List.cons_append, List.nil_append, List.replicate, List.length_cons, List.length_nil]
      exact ⟨(by first | rfl | trivial), W, hlow⟩
  obtain ⟨d, G', e, rfl, h⟩ := Rs.ok_of key
  exact ⟨G', e, h⟩
/-- what a cell may touch below B -/
abbrev Low (B o du : Nat) (G G' : Gh) : Prop := ∀ j, j < B → j ≠ o + 2 → j ≠ o + 3 → j ≠ o + 4 → j ≠ du → G'.ob j = G.ob j
theorem rule_ok (W : Wz B G U o rl du us kro r kn os N) (r' : Int × Str) (hr : 0 ≤ r'.1 ∧ r'.1 ≤ 5 ∧ roleB r'.2 = true) : ∃ G', m_Orders_set_rule [.ref o, .str "pay", .ref G.n] (G.push (.lst [.tup [.int 0, .int r'.1, .str r'.2]])) = .ok .non G' ∧ Wz B G' U o rl du us kro r' kn os N ∧ (∀ j, j < G.n → j ≠ o + 2 → G'.ob j = G.ob j) ∧ G.n ≤ G'.n := by
  obtain ⟨l1, l2, l3, l4, l5⟩ := W.lt
  have f1 := Mi.Fr.push G (.lst [.tup [.int 0, .int r'.1, .str r'.2]])
  have W1 := W.fr f1
  have hp : (G.push (.lst [.tup [.int 0, .int r'.1, .str r'.2]])).ob G.n = .lst (([(0, r'.1, r'.2)] : List Rw).map rowD) := ob_push_same _ _
  have n1 : (G.push (.lst [.tup [.int 0, .int r'.1, .str r'.2]])).n = G.n + 1 := n_push _ _
  generalize G.push (.lst [.tup [.int 0, .int r'.1, .str r'.2]]) = G1 at f1 W1 hp n1
  obtain ⟨G2, e2, f2⟩ := set_rule_ok W1.ho (by omega) W1.hru (by show 1 ≤ 1000; decide) hp (by omega) "pay" (by decide +kernel) (by decide +kernel) (good_one hr)
  have g2 := f2.1
  refine ⟨_, e2, W.rule ⟨?_, fun j hj hn => ?_⟩ r' hr ?_, fun j hj n2 => ?_, by rw [n_set]; omega⟩
  · rw [n_set]; omega
  · simp only [List.mem_cons, List.not_mem_nil, or_false] at hn
    rw [ob_set_ne _ _ hn, f2.2 _ (by omega)]; exact f1.2 j hj
  · rw [ob_set_same, putD, if_pos rfl]
  · rw [ob_set_ne _ _ n2, f2.2 _ (by omega)]; exact f1.2 j hj
theorem pay_fnd {r : Int × Str} {am : Int} (h : 1 ≤ am) : fnd am [(0, r.1, r.2)] = (r.1, .str r.2) := by
  unfold fnd
  rw [List.foldl_cons, List.foldl_nil]
  unfold stF
  rw [if_pos (show (0 : Int) ≤ am by omega)]
theorem placed_ok (W : Wz B G U o rl du us kro r kn os N) (hN : N ≤ 900) (hol : os.length ≤ 63) {RR : Nat} {row : List Int} (hR : G.ob RR = .lst (row.map D.int)) (hrl : row.length = 8) (hus : us.length = 6) (hkr : ∀ i u, i < 5 → us[i]? = some u → (valD kro (.inr u)).isSome = true) :
    ∃ G' kn' os', m_law_placed [.ref o, .ref du, .ref RR, .ref U, .tup [.int r.1, .str r.2]] G = .ok (.bl true) G' ∧ Wz B G' U o rl du us kro r kn' os' (N + 1) ∧ os'.length = os.length + 1 ∧ Low B o du G G' ∧ (∀ j, B ≤ j → j < G.n → G'.ob j = G.ob j) := by
  have key : (m_law_placed [.ref o, .ref du, .ref RR, .ref U, .tup [.int r.1, .str r.2]] G).sat (fun d G' => ∃ kn' os', d = .bl true ∧ Wz B G' U o rl du us kro r kn' os' (N + 1) ∧ os'.length = os.length + 1 ∧ Low B o du G G' ∧ (∀ j, B ≤ j → j < G.n → G'.ob j = G.ob j)) nE := by
    unfold m_law_placed b_law_placed
    rw [w_fun]
    refine ⟨rfl, ?_⟩
    obtain ⟨l1, l2, l3, l4, l5⟩ := W.lt
    obtain ⟨p1, p2⟩ := W.len
    have r1 := row_ix hR 1 (by omega)
    have r2 := row_ix hR 2 (by omega)
    have r3 := row_ix hR 3 (by omega)
    obtain ⟨u, hu⟩ : ∃ u, us[(rv row 1 % 5).toNat]? = some u := ⟨_, List.getElem?_eq_getElem (show (rv row 1 % 5).toNat < us.length by omega)⟩
    have ixu : opIx (.ref U) (.int (rv row 1 % 5)) G = some (.str u, G) := ix_lst W.hU (atI_int (by omega) (by rw [List.getElem?_map, hu]; rfl))
    have hku := hkr _ u (by omega) hu
    have hl64 : os.length < 64 := by omega
    have hk20 : 1 ≤ (keyK os.length).length ∧ (keyK os.length).length ≤ 20 := (keyK_ok ⟨os.length, hl64⟩).1
    have hka := keyK_add ⟨os.length, hl64⟩
    have hlen : lenD (.ref du) G = some os.length := (len_lst W.hdu).trans (by rw [List.length_map])
    have hstr : bStr [.int (os.length : Int)] G = some (.str (toString (os.length : Int)), G) := b_str hka.2
    have hkey : opAdd (.str "key ") (.str (toString (os.length : Int))) G = some (.str (keyK os.length), G) := o_adds (sz1 (Nat.le_trans hka.1 (by decide)))
    generalize ham : 1 + rv row 2 % 2000 = am
    have ham' : 1 ≤ am ∧ am ≤ 1000000000 := by omega
    have hE : placeE kro u "pay" am (keyK os.length) (rv row 3 % 40) = none := by
      unfold placeE
      rw [if_neg (by rw [hku]; decide), if_neg (by decide +kernel), if_neg (not_not_intro ham'), if_neg (not_not_intro hk20), if_neg (by omega)]
    obtain ⟨id, G1, e1, f1, i1, i2, i3, i4⟩ := place_new W.ho (by omega) W.hro W.hru W.hpl W.hnb u "pay" am (keyK os.length) (rv row 3 % 40) (by decide +kernel) (by omega) hE (W.keys _ (Nat.le_refl _) hl64) (by rw [List.length_map]; omega) (by omega) (R := [(0, r.1, r.2)]) (by rw [valD, if_pos rfl]; rfl)
    rw [List.length_map] at e1
    rw [pay_fnd ham'.1] at i3
    have g1 := f1.1
    have W1 := W.fr f1
    generalize hG2 : (G1.set (o + 3) (.lst ((os.map fun z => D.ref z.id) ++ [.ref id]))).set (o + 4) (.dct (putD kn (.inr (keyK os.length)) (.int ((os.length : Int) + 1)))) = G2 at e1
    have h2 : ∀ j, j ≠ o + 3 → j ≠ o + 4 → G2.ob j = G1.ob j := fun j a b => by rw [← hG2, ob_set_ne _ _ b, ob_set_ne _ _ a]
    have n2 : G2.n = G1.n := by rw [← hG2, n_set, n_set]
    have q3 : G2.ob (o + 3) = .lst ((os.map fun z => D.ref z.id) ++ [.ref id]) := by rw [← hG2, ob_set_ne _ _ (by omega), ob_set_same]
    have q4 : G2.ob (o + 4) = .dct (putD kn (.inr (keyK os.length)) (.int ((os.length : Int) + 1))) := by rw [← hG2, ob_set_same]
    have du2 : G2.ob du = .lst (os.map fun z => .ref z.ll) := (h2 _ (by omega) (by omega)).trans W1.hdu
    have t0 : ∀ G, opIx (.tup [.int r.1, .str r.2]) (.int 0) G = some (.int r.1, G) := fun G => ix_tup rfl
    have t1 : ∀ G, opIx (.tup [.int r.1, .str r.2]) (.int 1) G = some (.str r.2, G) := fun G => ix_tup rfl
    rw [q_law_placed_2, w_seq]; simp only [w_ok, w_c, w_v, w_op, w_un, w_b, w_nil, w_cons, w_call, w_tup, w_lst, w_dct0, w_fld, w_meth, w_make, w_mt, w_get2, w_tru, w_asB, w_not, w_and, w_or, w_chain, w_andV, w_orV, w_notV, w_if, w_isi, w_pNone, w_pSome, w_sl, w_nx, w_brk, w_cnt, w_drop, w_ret, w_retN, w_sif, w_raise, gmN, gmT, gmAll, w_asg, w_sfld, w_ssub, w_saug, w_for, w_iseq, w_irng1, w_irng2, slotQ_some, opQ_some, opD_some, getQ_some, opB_some, blQ_bl, tyQ_some, inQ_int, evQ_some, ghQ_some, List.getElem?_cons_zero, List.getElem?_cons_succ, List.set_cons_zero, List.set_cons_succ, List.map_cons, List.map_nil, List.cons_append, List.nil_append, List.replicate, List.length_cons, List.length_nil, o_add, o_sub, o_lt, o_le, o_gt, o_ge, o_les, o_eq, o_ne, o_eqs, o_nes, o_eqb, o_neb, o_is, o_isNot, o_iadd, o_neg, b_int, b_min, b_max, r1, o_mod (show (0 : Int) < 5 by decide), ixu]
    rw [q_law_placed_3, w_seq]; simp only [w_ok, w_c, w_v, w_op, w_un, w_b, w_nil, w_cons, w_call, w_tup, w_lst, w_dct0, w_fld, w_meth, w_make, w_mt, w_get2, w_tru, w_asB, w_not, w_and, w_or, w_chain, w_andV, w_orV, w_notV, w_if, w_isi, w_pNone, w_pSome, w_sl, w_nx, w_brk, w_cnt, w_drop, w_ret, w_retN, w_sif, w_raise, gmN, gmT, gmAll, w_asg, w_sfld, w_ssub, w_saug, w_for, w_iseq, w_irng1, w_irng2, slotQ_some, opQ_some, opD_some, getQ_some, opB_some, blQ_bl, tyQ_some, inQ_int, evQ_some, ghQ_some, List.getElem?_cons_zero, List.getElem?_cons_succ, List.set_cons_zero, List.set_cons_succ, List.map_cons, List.map_nil, List.cons_append, List.nil_append, List.replicate, List.length_cons, List.length_nil, o_add, o_sub, o_lt, o_le, o_gt, o_ge, o_les, o_eq, o_ne, o_eqs, o_nes, o_eqb, o_neb, o_is, o_isNot, o_iadd, o_neg, b_int, b_min, b_max, r2, o_mod (show (0 : Int) < 2000 by decide), ham]
    rw [q_law_placed_4, w_seq]; simp only [w_ok, w_c, w_v, w_op, w_un, w_b, w_nil, w_cons, w_call, w_tup, w_lst, w_dct0, w_fld, w_meth, w_make, w_mt, w_get2, w_tru, w_asB, w_not, w_and, w_or, w_chain, w_andV, w_orV, w_notV, w_if, w_isi, w_pNone, w_pSome, w_sl, w_nx, w_brk, w_cnt, w_drop, w_ret, w_retN, w_sif, w_raise, gmN, gmT, gmAll, w_asg, w_sfld, w_ssub, w_saug, w_for, w_iseq, w_irng1, w_irng2, slotQ_some, opQ_some, opD_some, getQ_some, opB_some, blQ_bl, tyQ_some, inQ_int, evQ_some, ghQ_some, List.getElem?_cons_zero, List.getElem?_cons_succ, List.set_cons_zero, List.set_cons_succ, List.map_cons, List.map_nil, List.cons_append, List.nil_append, List.replicate, List.length_cons, List.length_nil, o_add, o_sub, o_lt, o_le, o_gt, o_ge, o_les, o_eq, o_ne, o_eqs, o_nes, o_eqb, o_neb, o_is, o_isNot, o_iadd, o_neg, b_int, b_min, b_max, r3, o_mod (show (0 : Int) < 40 by decide)]
    rw [q_law_placed_5, w_seq]; simp only [w_ok, w_c, w_v, w_op, w_un, w_b, w_nil, w_cons, w_call, w_tup, w_lst, w_dct0, w_fld, w_meth, w_make, w_mt, w_get2, w_tru, w_asB, w_not, w_and, w_or, w_chain, w_andV, w_orV, w_notV, w_if, w_isi, w_pNone, w_pSome, w_sl, w_nx, w_brk, w_cnt, w_drop, w_ret, w_retN, w_sif, w_raise, gmN, gmT, gmAll, w_asg, w_sfld, w_ssub, w_saug, w_for, w_iseq, w_irng1, w_irng2, slotQ_some, opQ_some, opD_some, getQ_some, opB_some, blQ_bl, tyQ_some, inQ_int, evQ_some, ghQ_some, List.getElem?_cons_zero, List.getElem?_cons_succ, List.set_cons_zero, List.set_cons_succ, List.map_cons, List.map_nil, List.cons_append, List.nil_append, List.replicate, List.length_cons, List.length_nil, o_add, o_sub, o_lt, o_le, o_gt, o_ge, o_les, o_eq, o_ne, o_eqs, o_nes, o_eqb, o_neb, o_is, o_isNot, o_iadd, o_neg, b_int, b_min, b_max, b_len hlen, hstr, hkey]
    rw [q_law_placed_6, w_seq]; simp only [w_ok, w_c, w_v, w_op, w_un, w_b, w_nil, w_cons, w_call, w_tup, w_lst, w_dct0, w_fld, w_meth, w_make, w_mt, w_get2, w_tru, w_asB, w_not, w_and, w_or, w_chain, w_andV, w_orV, w_notV, w_if, w_isi, w_pNone, w_pSome, w_sl, w_nx, w_brk, w_cnt, w_drop, w_ret, w_retN, w_sif, w_raise, gmN, gmT, gmAll, w_asg, w_sfld, w_ssub, w_saug, w_for, w_iseq, w_irng1, w_irng2, slotQ_some, opQ_some, opD_some, getQ_some, opB_some, blQ_bl, tyQ_some, inQ_int, evQ_some, ghQ_some, List.getElem?_cons_zero, List.getElem?_cons_succ, List.set_cons_zero, List.set_cons_succ, List.map_cons, List.map_nil, List.cons_append, List.nil_append, List.replicate, List.length_cons, List.length_nil, o_add, o_sub, o_lt, o_le, o_gt, o_ge, o_les, o_eq, o_ne, o_eqs, o_nes, o_eqb, o_neb, o_is, o_isNot, o_iadd, o_neg, b_int, b_min, b_max, insQ_of W.ho, e1]
    rw [q_law_placed_7, w_seq]; simp only [w_ok, w_c, w_v, w_op, w_un, w_b, w_nil, w_cons, w_call, w_tup, w_lst, w_dct0, w_fld, w_meth, w_make, w_mt, w_get2, w_tru, w_asB, w_not, w_and, w_or, w_chain, w_andV, w_orV, w_notV, w_if, w_isi, w_pNone, w_pSome, w_sl, w_nx, w_brk, w_cnt, w_drop, w_ret, w_retN, w_sif, w_raise, gmN, gmT, gmAll, w_asg, w_sfld, w_ssub, w_saug, w_for, w_iseq, w_irng1, w_irng2, slotQ_some, opQ_some, opD_some, getQ_some, opB_some, blQ_bl, tyQ_some, inQ_int, evQ_some, ghQ_some, List.getElem?_cons_zero, List.getElem?_cons_succ, List.set_cons_zero, List.set_cons_succ, List.map_cons, List.map_nil, List.cons_append, List.nil_append, List.replicate, List.length_cons, List.length_nil, o_add, o_sub, o_lt, o_le, o_gt, o_ge, o_les, o_eq, o_ne, o_eqs, o_nes, o_eqb, o_neb, o_is, o_isNot, o_iadd, o_neg, b_int, b_min, b_max, t1]
    rw [q_law_placed_8, w_seq]; simp only [w_ok, w_c, w_v, w_op, w_un, w_b, w_nil, w_cons, w_call, w_tup, w_lst, w_dct0, w_fld, w_meth, w_make, w_mt, w_get2, w_tru, w_asB, w_not, w_and, w_or, w_chain, w_andV, w_orV, w_notV, w_if, w_isi, w_pNone, w_pSome, w_sl, w_nx, w_brk, w_cnt, w_drop, w_ret, w_retN, w_sif, w_raise, gmN, gmT, gmAll, w_asg, w_sfld, w_ssub, w_saug, w_for, w_iseq, w_irng1, w_irng2, slotQ_some, opQ_some, opD_some, getQ_some, opB_some, blQ_bl, tyQ_some, inQ_int, evQ_some, ghQ_some, List.getElem?_cons_zero, List.getElem?_cons_succ, List.set_cons_zero, List.set_cons_succ, List.map_cons, List.map_nil, List.cons_append, List.nil_append, List.replicate, List.length_cons, List.length_nil, o_add, o_sub, o_lt, o_le, o_gt, o_ge, o_les, o_eq, o_ne, o_eqs, o_nes, o_eqb, o_neb, o_is, o_isNot, o_iadd, o_neg, b_int, b_min, b_max]
    have ten : ∀ (x : Odr), x = newO u "pay" am (keyK os.length) (rv row 3 % 40) (r.1, .str r.2) → x.rq = r.1 → (q_law_placed_10 ([some (.ref o), some (.ref du), some (.ref RR), some (.ref U), some (.tup [.int r.1, .str r.2]), some (.str u), some (.int am), some (.int (rv row 3 % 40)), some (.str (keyK os.length)), some (.int ((os.length : Int) + 1)), some x.ro, some (.str x.st)] : Ev) G2).sat ⟨fun _ _ => False, fun d G' => ∃ kn' os', d = .bl true ∧ Wz B G' U o rl du us kro r kn' os' (N + 1) ∧ os'.length = os.length + 1 ∧ Low B o du G G' ∧ (∀ j, B ≤ j → j < G.n → G'.ob j = G.ob j), fun _ _ _ => False, fun _ _ => False, fun _ _ => False⟩ := fun x hx hrq => by
      have hxm : x.mr = u ∧ x.kd = "pay" ∧ x.am = am ∧ x.ky = keyK os.length ∧ x.un = rv row 3 % 40 := by rw [hx]; exact ⟨rfl, rfl, rfl, rfl, rfl⟩
      obtain ⟨x1, x2, x3, x4, x5⟩ := hxm
      have n3 : (G2.push (.lst [])).n = G2.n + 1 := n_push _ _
      have f3 := Mi.Fr.push G2 (.lst [])
      have lg3 : (G2.push (.lst [])).ob G2.n = .lst [] := ob_push_same _ _
      have f4 := Mi.Fr.push (G2.push (.lst [])) (.lst (lawL ⟨x, [], id, G2.n + 1, G2.n⟩))
      have ll4 : ((G2.push (.lst [])).push (.lst (lawL ⟨x, [], id, G2.n + 1, G2.n⟩))).ob (G2.n + 1) = .lst (lawL ⟨x, [], id, G2.n + 1, G2.n⟩) := ob_push_same (G2.push (.lst [])) _
      have n4 : ((G2.push (.lst [])).push (.lst (lawL ⟨x, [], id, G2.n + 1, G2.n⟩))).n = G2.n + 2 := by rw [n_push, n_push]
      have lo : isLst (.ref du) G2 = true := isLst_of du2
      rw [q_law_placed_10, w_seq]
      simp only [w_ok, w_c, w_v, w_op, w_un, w_b, w_nil, w_cons, w_call, w_tup, w_lst, w_dct0, w_fld, w_meth, w_make, w_mt, w_get2, w_tru, w_asB, w_not, w_and, w_or, w_chain, w_andV, w_orV, w_notV, w_if, w_isi, w_pNone, w_pSome, w_sl, w_nx, w_brk, w_cnt, w_drop, w_ret, w_retN, w_sif, w_raise, gmN, gmT, gmAll, w_asg, w_sfld, w_ssub, w_saug, w_for, w_iseq, w_irng1, w_irng2, slotQ_some, opQ_some, opD_some, getQ_some, opB_some, blQ_bl, tyQ_some, inQ_int, evQ_some, ghQ_some, List.getElem?_cons_zero, List.getElem?_cons_succ, List.set_cons_zero, List.set_cons_succ, List.map_cons, List.map_nil, List.cons_append, List.nil_append, List.replicate, List.length_cons, List.length_nil, t0, lo, true_and]
      refine ⟨Nat.zero_le _, by decide, ?_⟩
      have hll : ([.str u, .str "pay", .int am, .str (keyK os.length), .int (rv row 3 % 40), .int r.1, x.ro, .ref G2.n, .str x.st] : List D) = lawL ⟨x, [], id, G2.n + 1, G2.n⟩ := by
        unfold lawL
        rw [x1, x2, x3, x4, x5, hrq]
      rw [hll, n3]
      have fall : ∀ j, j < G2.n → ((G2.push (.lst [])).push (.lst (lawL ⟨x, [], id, G2.n + 1, G2.n⟩))).ob j = G2.ob j := (f3.trans f4).2
      have lg4 : ((G2.push (.lst [])).push (.lst (lawL ⟨x, [], id, G2.n + 1, G2.n⟩))).ob G2.n = .lst [] := (f4.2 _ (by omega)).trans lg3
      generalize (G2.push (.lst [])).push (.lst (lawL ⟨x, [], id, G2.n + 1, G2.n⟩)) = G4 at ll4 n4 fall lg4
      have du4 : G4.ob du = .lst (os.map fun z => .ref z.ll) := (fall _ (by omega)).trans du2
      have ap : mAppend (.ref du) [.ref (G2.n + 1)] G4 = some (.non, G4.set du (.lst ((os.map fun z => D.ref z.ll) ++ [.ref (G2.n + 1)]))) := m_append du4 (sz2 (by rw [List.length_map]; omega))
      have hl5 : lenD (.ref du) (G4.set du (.lst ((os.map fun z => D.ref z.ll) ++ [.ref (G2.n + 1)]))) = some (os.length + 1) := (len_lst (ob_set_same _ _ _)).trans (by rw [List.length_append, List.length_map]; rfl)
      have cast : ((os.length + 1 : Nat) : Int) = (os.length : Int) + 1 := by omega
      simp only [ap, b_len hl5, cast, same_int 7 ((os.length : Int) + 1), w_ok, w_c, w_v, w_op, w_un, w_b, w_nil, w_cons, w_call, w_tup, w_lst, w_dct0, w_fld, w_meth, w_make, w_mt, w_get2, w_tru, w_asB, w_not, w_and, w_or, w_chain, w_andV, w_orV, w_notV, w_if, w_isi, w_pNone, w_pSome, w_sl, w_nx, w_brk, w_cnt, w_drop, w_ret, w_retN, w_sif, w_raise, gmN, gmT, gmAll, w_asg, w_sfld, w_ssub, w_saug, w_for, w_iseq, w_irng1, w_irng2, slotQ_some, opQ_some, opD_some, getQ_some, opB_some, blQ_bl, tyQ_some, inQ_int, evQ_some, ghQ_some, List.getElem?_cons_zero, List.getElem?_cons_succ, List.set_cons_zero, List.set_cons_succ, List.map_cons, List.map_nil, List.cons_append, List.nil_append, List.replicate, List.length_cons, List.length_nil]
      refine ⟨_, os ++ [⟨x, [], id, G2.n + 1, G2.n⟩], (by first | rfl | trivial), W.order (G' := _) ⟨by rw [n_set]; omega, fun j hj hn => ?_⟩ ⟨x, [], id, G2.n + 1, G2.n⟩ hl64 ?_ ?_ ?_ ⟨?_, ?_, ?_, ?_⟩ ⟨i1, ?_, ?_, ?_, ?_, ?_⟩ ⟨?_, ?_, Nat.zero_le _⟩ ⟨?_, ?_, ?_, ?_, ?_, ?_⟩, by rw [List.length_append, List.length_singleton], fun j hj m2 m3 m4 m5 => ?_, fun j hj hn => ?_⟩
      · simp only [List.mem_cons, List.not_mem_nil, or_false, not_or] at hn
        rw [ob_set_ne _ _ hn.2.2, fall _ (by omega), h2 _ hn.1 hn.2.1, f1.2 _ hj]
      · rw [ob_set_ne _ _ (by omega), fall _ (by omega), q3, List.map_append]; rfl
      · rw [ob_set_ne _ _ (by omega), fall _ (by omega), q4]
      · rw [ob_set_same, List.map_append]; rfl
      · show (G4.set du _).ob id = .ins 8 (ordF x (id + 1))
        rw [ob_set_ne _ _ (by omega), fall _ (by omega), h2 _ (by omega) (by omega), hx]; exact i3
      · show (G4.set du _).ob (id + 1) = .lst []
        rw [ob_set_ne _ _ (by omega), fall _ (by omega), h2 _ (by omega) (by omega)]; exact i4
      · show (G4.set du _).ob (G2.n + 1) = _
        rw [ob_set_ne _ _ (by omega)]; exact ll4
      · show (G4.set du _).ob G2.n = .lst []
        rw [ob_set_ne _ _ (by omega)]; exact lg4
      · show id + 1 < G4.n
        omega
      · show G.n ≤ G2.n + 1
        omega
      · show G2.n + 1 < G4.n
        omega
      · show G.n ≤ G2.n
        omega
      · show G2.n < G4.n
        omega
      · show x.ro = .non ∨ _
        rw [hx]
        unfold newO
        dsimp only
        split
        · exact .inr ⟨_, rfl⟩
        · exact .inl rfl
      · show x.st = "waiting" → _
        rw [hx]
        unfold newO
        dsimp only
        split
        · exact fun _ => ⟨_, rfl, W.hr.2.2⟩
        · exact fun e => absurd e nw_ready
      · show G2.n + 1 ≠ id
        omega
      · show G2.n + 1 ≠ id + 1
        omega
      · show G2.n + 1 ≠ G2.n
        omega
      · show id ≠ G2.n
        omega
      · show id + 1 ≠ G2.n
        omega
      · show id ≠ id + 1
        omega
      · rw [ob_set_ne _ _ m5, fall _ (by omega), h2 _ m3 m4, f1.2 _ (by omega)]
      · rw [ob_set_ne _ _ (by omega), fall _ (by omega), h2 _ (by omega) (by omega), f1.2 _ hn]
    have fin : ∀ {s : Ro}, s.sat ⟨fun _ _ => False, fun d G' => ∃ kn' os', d = .bl true ∧ Wz B G' U o rl du us kro r kn' os' (N + 1) ∧ os'.length = os.length + 1 ∧ Low B o du G G' ∧ (∀ j, B ≤ j → j < G.n → G'.ob j = G.ob j), fun _ _ _ => False, fun _ _ => False, fun _ _ => False⟩ → s.sat ⟨fun _ G1 => ∃ kn' os', D.non = .bl true ∧ Wz B G1 U o rl du us kro r kn' os' (N + 1) ∧ os'.length = os.length + 1 ∧ Low B o du G G1 ∧ (∀ j, B ≤ j → j < G.n → G1.ob j = G.ob j), fun d G' => ∃ kn' os', d = .bl true ∧ Wz B G' U o rl du us kro r kn' os' (N + 1) ∧ os'.length = os.length + 1 ∧ Low B o du G G' ∧ (∀ j, B ≤ j → j < G.n → G'.ob j = G.ob j), fun c _ G1 => nE c G1, fun _ _ => False, fun _ _ => False⟩ := fun {s} h => Ro.sat_mono h (fun _ _ z => z.elim) (fun _ _ z => z) (fun _ _ _ z => z.elim) (fun _ _ z => z.elim) (fun _ _ z => z.elim)
    rw [q_law_placed_9, w_seq]
    simp only [w_ok, w_c, w_v, w_op, w_un, w_b, w_nil, w_cons, w_call, w_tup, w_lst, w_dct0, w_fld, w_meth, w_make, w_mt, w_get2, w_tru, w_asB, w_not, w_and, w_or, w_chain, w_andV, w_orV, w_notV, w_if, w_isi, w_pNone, w_pSome, w_sl, w_nx, w_brk, w_cnt, w_drop, w_ret, w_retN, w_sif, w_raise, gmN, gmT, gmAll, w_asg, w_sfld, w_ssub, w_saug, w_for, w_iseq, w_irng1, w_irng2, slotQ_some, opQ_some, opD_some, getQ_some, opB_some, blQ_bl, tyQ_some, inQ_int, evQ_some, ghQ_some, List.getElem?_cons_zero, List.getElem?_cons_succ, List.set_cons_zero, List.set_cons_succ, List.map_cons, List.map_nil, List.cons_append, List.nil_append, List.replicate, List.length_cons, List.length_nil, o_add, o_sub, o_lt, o_le, o_gt, o_ge, o_les, o_eq, o_ne, o_eqs, o_nes, o_eqb, o_neb, o_is, o_isNot, o_iadd, o_neg, b_int, b_min, b_max, t0]
    by_cases h0 : r.1 = 0
    · simp only [decide_eq_true h0, if_true]
      rw [q_law_placed_1, w_seq]; simp only [w_ok, w_c, w_v, w_op, w_un, w_b, w_nil, w_cons, w_call, w_tup, w_lst, w_dct0, w_fld, w_meth, w_make, w_mt, w_get2, w_tru, w_asB, w_not, w_and, w_or, w_chain, w_andV, w_orV, w_notV, w_if, w_isi, w_pNone, w_pSome, w_sl, w_nx, w_brk, w_cnt, w_drop, w_ret, w_retN, w_sif, w_raise, gmN, gmT, gmAll, w_asg, w_sfld, w_ssub, w_saug, w_for, w_iseq, w_irng1, w_irng2, slotQ_some, opQ_some, opD_some, getQ_some, opB_some, blQ_bl, tyQ_some, inQ_int, evQ_some, ghQ_some, List.getElem?_cons_zero, List.getElem?_cons_succ, List.set_cons_zero, List.set_cons_succ, List.map_cons, List.map_nil, List.cons_append, List.nil_append, List.replicate, List.length_cons, List.length_nil, o_add, o_sub, o_lt, o_le, o_gt, o_ge, o_les, o_eq, o_ne, o_eqs, o_nes, o_eqb, o_neb, o_is, o_isNot, o_iadd, o_neg, b_int, b_min, b_max]
      have hx : newO u "pay" am (keyK os.length) (rv row 3 % 40) (r.1, .str r.2) = ⟨u, "pay", am, keyK os.length, rv row 3 % 40, r.1, .non, "ready"⟩ := by
        unfold newO
        rw [h0]
        rfl
      exact fin (ten _ hx.symm rfl)
    · simp only [decide_eq_false h0, Bool.false_eq_true, if_false]
      have hp : 0 < r.1 := by have := W.hr.1; omega
      have hx : newO u "pay" am (keyK os.length) (rv row 3 % 40) (r.1, .str r.2) = ⟨u, "pay", am, keyK os.length, rv row 3 % 40, r.1, .str r.2, "waiting"⟩ := by
        unfold newO
        simp only [if_pos hp]
      exact fin (ten _ hx.symm rfl)
  obtain ⟨d, G', e, kn', os', rfl, h⟩ := Rs.ok_of key
  exact ⟨G', kn', os', e, h⟩
end
end Lw
namespace Lw
open PySem PySem.Spec PyProof.Rows L2 Mi
/-! k50: a cell -/
def Act (w : Str) : Prop := w = "grant" ∨ w = "reject" ∨ w = "withdraw" ∨ w = "complete" ∨ w = "fail" ∨ w = "expire"
theorem tru_lst {G : Gh} {l : Nat} {xs : List D} (h : G.ob l = .lst xs) : truD (.ref l) G = some (!xs.isEmpty) := by
  unfold truD
  dsimp only
  rw [h]
section
variable {B : Nat} {G G' : Gh} {U o rl du : Nat} {us : List Str} {kro kn : List (Key × D)} {r : Int × Str} {os : List Oz} {N : Nat}
abbrev cEnv (U o rl du : Nat) (r : Int × Str) (s0 s1 y5 y8 y9 y10 y11 y12 y13 y14 y15 : Option D) : Ev := [s0, s1, some (.ref U), some (.ref o), some (.ref rl), y5, some (.tup [.int r.1, .str r.2]), some (.ref du), y8, y9, y10, y11, y12, y13, y14, y15]
def Cq (B : Nat) (G : Gh) (U o rl du : Nat) (us : List Str) (kro : List (Key × D)) (N L : Nat) (s0 s1 : Option D) (e' : Ev) (G' : Gh) : Prop :=
  ∃ (r : Int × Str) (kn : List (Key × D)) (os : List Oz) (y5 y8 y9 y10 y11 y12 y13 y14 y15 : Option D), e' = cEnv U o rl du r s0 s1 y5 y8 y9 y10 y11 y12 y13 y14 y15 ∧ Wz B G' U o rl du us kro r kn os N ∧ os.length ≤ L ∧ Low B o du G G'
abbrev cQ (B : Nat) (G : Gh) (U o rl du : Nat) (us : List Str) (kro : List (Key × D)) (N L : Nat) (s0 s1 : Option D) : Pq := ⟨Cq B G U o rl du us kro N L s0 s1, fun _ _ => False, fun _ _ _ => False, fun _ _ => False, fun _ _ => False⟩
theorem cQ_low {s : Ro} {L : Nat} {G0 : Gh} {s0 s1 : Option D} (h : s.sat (cQ B G U o rl du us kro N L s0 s1)) (f : Low B o du G0 G) : s.sat (cQ B G0 U o rl du us kro N L s0 s1) := by
  refine Ro.sat_mono h ?_ (fun _ _ z => z) (fun _ _ _ z => z) (fun _ _ z => z) (fun _ _ z => z)
  rintro e G2 ⟨r, kn, os, y5, y8, y9, y10, y11, y12, y13, y14, y15, he, W, hL, l⟩
  exact ⟨r, kn, os, y5, y8, y9, y10, y11, y12, y13, y14, y15, he, W, hL, fun j a b c d e => (l j a b c d e).trans (f j a b c d e)⟩
theorem low_of {G0 G1 : Gh} (f : ∀ j, j < B → G1.ob j = G0.ob j) : Low B o du G0 G1 := fun j hj _ _ _ _ => f j hj
/-- the call, and how the orders stand behind it -/
theorem stage15 {G1 G2 : Gh} {w b : Str} {n day : Int} {due ans : D} (hb : ∀ j, j < B → G2.ob j = G.ob j) (hc : m_law_call [.ref o, .str w, .str b, .int n, .int day] G1 = .ok ans G2) (hs : m_law_same 8 [ans, due] G2 = .ok (.bl true) G2) (W : Wz B G2 U o rl du us kro r kn os N) (hN : N ≤ 900) {L : Nat} (hL : os.length ≤ L) (s0 s1 y5 y8 y9 y10 : Option D) :
    (q_law_15 (cEnv U o rl du r s0 s1 y5 y8 y9 y10 (some (.str w)) (some (.str b)) (some (.int n)) (some (.int day)) (some due)) G1).sat (cQ B G U o rl du us kro N L s0 s1) := by
  obtain ⟨G3, e3, W3, l3⟩ := stand_ok W hN
  rw [q_law_15, w_seq]
  unfold cEnv
  simp only [w_ok, w_c, w_v, w_op, w_un, w_b, w_nil, w_cons, w_call, w_tup, w_lst, w_dct0, w_fld, w_meth, w_make, w_mt, w_get2, w_tru, w_asB, w_not, w_and, w_or, w_chain, w_andV, w_orV, w_notV, w_if, w_isi, w_pNone, w_pSome, w_sl, w_nx, w_brk, w_cnt, w_drop, w_ret, w_retN, w_sif, w_raise, gmN, gmT, gmAll, w_asg, w_sfld, w_ssub, w_saug, w_for, w_iseq, w_irng1, w_irng2, slotQ_some, opQ_some, opD_some, getQ_some, opB_some, blQ_bl, tyQ_some, inQ_int, evQ_some, ghQ_some, List.getElem?_cons_zero, List.getElem?_cons_succ, List.set_cons_zero, List.set_cons_succ, List.map_cons, List.map_nil, List.cons_append, List.nil_append, List.replicate, List.length_cons, List.length_nil, hc, hs, truD, Bool.not_true, Bool.false_eq_true, if_false, e3]
  exact ⟨r, kn, os, _, _, _, _, _, _, _, _, _, rfl, W3, hL, fun j hj _ _ _ _ => (l3 j hj).trans (hb j hj)⟩
theorem stage14 (W : Wz B G U o rl du us kro r kn os N) (hN : N ≤ 800) {w : Str} (hw : Act w) (b : Str) (n day : Int) (s0 s1 y5 y8 y9 y10 y15 : Option D) :
    (q_law_14 (cEnv U o rl du r s0 s1 y5 y8 y9 y10 (some (.str w)) (some (.str b)) (some (.int n)) (some (.int day)) y15) G).sat (cQ B G U o rl du us kro (N + 1) os.length s0 s1) := by
  have one : Agr B G U o rl du us kro r kn N os.length w b n day → (q_law_14 (cEnv U o rl du r s0 s1 y5 y8 y9 y10 (some (.str w)) (some (.str b)) (some (.int n)) (some (.int day)) y15) G).sat (cQ B G U o rl du us kro (N + 1) os.length s0 s1) := fun h => by
    obtain ⟨st, G1, G2, os', e1, e2, W2, hL, l2⟩ := h
    rw [q_law_14, w_seq]
    unfold cEnv
    simp only [w_ok, w_c, w_v, w_op, w_un, w_b, w_nil, w_cons, w_call, w_tup, w_lst, w_dct0, w_fld, w_meth, w_make, w_mt, w_get2, w_tru, w_asB, w_not, w_and, w_or, w_chain, w_andV, w_orV, w_notV, w_if, w_isi, w_pNone, w_pSome, w_sl, w_nx, w_brk, w_cnt, w_drop, w_ret, w_retN, w_sif, w_raise, gmN, gmT, gmAll, w_asg, w_sfld, w_ssub, w_saug, w_for, w_iseq, w_irng1, w_irng2, slotQ_some, opQ_some, opD_some, getQ_some, opB_some, blQ_bl, tyQ_some, inQ_int, evQ_some, ghQ_some, List.getElem?_cons_zero, List.getElem?_cons_succ, List.set_cons_zero, List.set_cons_succ, List.map_cons, List.map_nil, List.cons_append, List.nil_append, List.replicate, List.length_cons, List.length_nil, e1]
    exact stage15 l2 e2 (same_str 7 st G2) W2 (by omega) (Nat.le_of_eq hL) _ _ _ _ _ _
  rcases hw with rfl | rfl | rfl | rfl | rfl | rfl
  · exact one (agr_grant W (by omega) b n day)
  · exact one (agr_reject W (by omega) b n day)
  · exact one (agr_withdraw W (by omega) b n day)
  · exact one (agr_complete W (by omega) b n day)
  · exact one (agr_fail W (by omega) b n day)
  · obtain ⟨l1, l2, xs, G1, G2, os', e1, e2, a1, a2, a3, W2, hL, l⟩ := agr_expire W (by omega) b n day
    rw [q_law_14, w_seq]
    unfold cEnv
    simp only [w_ok, w_c, w_v, w_op, w_un, w_b, w_nil, w_cons, w_call, w_tup, w_lst, w_dct0, w_fld, w_meth, w_make, w_mt, w_get2, w_tru, w_asB, w_not, w_and, w_or, w_chain, w_andV, w_orV, w_notV, w_if, w_isi, w_pNone, w_pSome, w_sl, w_nx, w_brk, w_cnt, w_drop, w_ret, w_retN, w_sif, w_raise, gmN, gmT, gmAll, w_asg, w_sfld, w_ssub, w_saug, w_for, w_iseq, w_irng1, w_irng2, slotQ_some, opQ_some, opD_some, getQ_some, opB_some, blQ_bl, tyQ_some, inQ_int, evQ_some, ghQ_some, List.getElem?_cons_zero, List.getElem?_cons_succ, List.set_cons_zero, List.set_cons_succ, List.map_cons, List.map_nil, List.cons_append, List.nil_append, List.replicate, List.length_cons, List.length_nil, e1]
    exact stage15 l e2 (same_ints 6 xs l2 l1 G2 a2 a1 a3) W2 (by omega) (Nat.le_of_eq hL) _ _ _ _ _ _
/-- behind the placing -/
theorem stage6 (W : Wz B G U o rl du us kro r kn os N) (hN : N ≤ 800) (h0 : 0 < os.length) {RR : Nat} {row : List Int} (hR : G.ob RR = .lst (row.map D.int)) (hrl : row.length = 8) (hus : us.length = 6) (s0 s1 y5 y8 y10 y11 y12 y13 y14 y15 : Option D) :
    (q_law_6 (cEnv U o rl du r s0 s1 y5 y8 (some (.ref RR)) y10 y11 y12 y13 y14 y15) G).sat (cQ B G U o rl du us kro (N + 1) os.length s0 s1) := by
  have r1 := row_ix hR 1 (by omega)
  have r2 := row_ix hR 2 (by omega)
  have r3 := row_ix hR 3 (by omega)
  have r4 := row_ix hR 4 (by omega)
  have r5 := row_ix hR 5 (by omega)
  have r6 := row_ix hR 6 (by omega)
  have r7 := row_ix hR 7 (by omega)
  have hlen : lenD (.ref du) G = some os.length := (len_lst W.hdu).trans (by rw [List.length_map])
  have hl0 : (0 : Int) < (os.length : Int) := by omega
  have i9 : ∃ w, Act w ∧ opIx (.tup [.str "grant", .str "grant", .str "grant", .str "grant", .str "reject", .str "withdraw", .str "complete", .str "fail", .str "expire"]) (.int (rv row 1 % 9)) G = some (.str w, G) := by
    have : rv row 1 % 9 = 0 ∨ rv row 1 % 9 = 1 ∨ rv row 1 % 9 = 2 ∨ rv row 1 % 9 = 3 ∨ rv row 1 % 9 = 4 ∨ rv row 1 % 9 = 5 ∨ rv row 1 % 9 = 6 ∨ rv row 1 % 9 = 7 ∨ rv row 1 % 9 = 8 := by omega
    rcases this with h | h | h | h | h | h | h | h | h <;> rw [h]
    · exact ⟨_, .inl rfl, ix_tup rfl⟩
    · exact ⟨_, .inl rfl, ix_tup rfl⟩
    · exact ⟨_, .inl rfl, ix_tup rfl⟩
    · exact ⟨_, .inl rfl, ix_tup rfl⟩
    · exact ⟨_, .inr (.inl rfl), ix_tup rfl⟩
    · exact ⟨_, .inr (.inr (.inl rfl)), ix_tup rfl⟩
    · exact ⟨_, .inr (.inr (.inr (.inl rfl))), ix_tup rfl⟩
    · exact ⟨_, .inr (.inr (.inr (.inr (.inl rfl)))), ix_tup rfl⟩
    · exact ⟨_, .inr (.inr (.inr (.inr (.inr rfl)))), ix_tup rfl⟩
  obtain ⟨w, hw, i9⟩ := i9
  obtain ⟨u, hu⟩ : ∃ u, us[(rv row 2 % 6).toNat]? = some u := ⟨_, List.getElem?_eq_getElem (show (rv row 2 % 6).toNat < us.length by omega)⟩
  have ixu : opIx (.ref U) (.int (rv row 2 % 6)) G = some (.str u, G) := ix_lst W.hU (atI_int (by omega) (by rw [List.getElem?_map, hu]; rfl))
  have hp : 0 ≤ rv row 3 % (os.length : Int) ∧ rv row 3 % (os.length : Int) < os.length := ⟨Int.emod_nonneg _ (by omega), Int.emod_lt_of_pos _ (by omega)⟩
  obtain ⟨z, hz⟩ : ∃ z, os[(rv row 3 % (os.length : Int)).toNat]? = some z := ⟨_, List.getElem?_eq_getElem (show (rv row 3 % (os.length : Int)).toNat < os.length by omega)⟩
  have ixz : opIx (.ref du) (.int (rv row 3 % (os.length : Int))) G = some (.ref z.ll, G) := ix_lst W.hdu (atI_int hp.1 (by rw [List.getElem?_map, hz]; rfl))
  have lz := lx (W.hos z (List.mem_of_getElem? hz)).2.2.1 0 _ rfl
  have i3 : ∃ m, opIx (.tup [.int 0, .int ((os.length : Int) + 1), .int (0 - 1)]) (.int (rv row 3 % 3)) G = some (.int m, G) := by
    have : rv row 3 % 3 = 0 ∨ rv row 3 % 3 = 1 ∨ rv row 3 % 3 = 2 := by omega
    rcases this with h | h | h <;> rw [h] <;> exact ⟨_, ix_tup rfl⟩
  obtain ⟨m3, i3⟩ := i3
  have i4 : ∃ m, opIx (.tup [.int (0 - 1), .int (0 - 1000000), .int 36525, .int 1000000000]) (.int (rv row 6 % 4)) G = some (.int m, G) := by
    have : rv row 6 % 4 = 0 ∨ rv row 6 % 4 = 1 ∨ rv row 6 % 4 = 2 ∨ rv row 6 % 4 = 3 := by omega
    rcases this with h | h | h | h <;> rw [h] <;> exact ⟨_, ix_tup rfl⟩
  obtain ⟨m4, i4⟩ := i4
  have s12 : ∀ (b : Str) (n : Int) (y10 : Option D), (q_law_12 (cEnv U o rl du r s0 s1 y5 y8 (some (.ref RR)) y10 (some (.str w)) (some (.str b)) (some (.int n)) y14 y15) G).sat (cQ B G U o rl du us kro (N + 1) os.length s0 s1) := fun b n y10 => by
    rw [q_law_12, w_seq]
    unfold cEnv
    simp only [w_ok, w_c, w_v, w_op, w_un, w_b, w_nil, w_cons, w_call, w_tup, w_lst, w_dct0, w_fld, w_meth, w_make, w_mt, w_get2, w_tru, w_asB, w_not, w_and, w_or, w_chain, w_andV, w_orV, w_notV, w_if, w_isi, w_pNone, w_pSome, w_sl, w_nx, w_brk, w_cnt, w_drop, w_ret, w_retN, w_sif, w_raise, gmN, gmT, gmAll, w_asg, w_sfld, w_ssub, w_saug, w_for, w_iseq, w_irng1, w_irng2, slotQ_some, opQ_some, opD_some, getQ_some, opB_some, blQ_bl, tyQ_some, inQ_int, evQ_some, ghQ_some, List.getElem?_cons_zero, List.getElem?_cons_succ, List.set_cons_zero, List.set_cons_succ, List.map_cons, List.map_nil, List.cons_append, List.nil_append, List.replicate, List.length_cons, List.length_nil, o_add, o_sub, o_lt, o_le, o_gt, o_ge, o_les, o_eq, o_ne, o_eqs, o_nes, o_eqb, o_neb, o_is, o_isNot, o_iadd, o_neg, b_int, b_min, b_max, r6, o_mod (show (0 : Int) < 44 by decide)]
    rw [q_law_13, w_seq]
    simp only [w_ok, w_c, w_v, w_op, w_un, w_b, w_nil, w_cons, w_call, w_tup, w_lst, w_dct0, w_fld, w_meth, w_make, w_mt, w_get2, w_tru, w_asB, w_not, w_and, w_or, w_chain, w_andV, w_orV, w_notV, w_if, w_isi, w_pNone, w_pSome, w_sl, w_nx, w_brk, w_cnt, w_drop, w_ret, w_retN, w_sif, w_raise, gmN, gmT, gmAll, w_asg, w_sfld, w_ssub, w_saug, w_for, w_iseq, w_irng1, w_irng2, slotQ_some, opQ_some, opD_some, getQ_some, opB_some, blQ_bl, tyQ_some, inQ_int, evQ_some, ghQ_some, List.getElem?_cons_zero, List.getElem?_cons_succ, List.set_cons_zero, List.set_cons_succ, List.map_cons, List.map_nil, List.cons_append, List.nil_append, List.replicate, List.length_cons, List.length_nil, o_add, o_sub, o_lt, o_le, o_gt, o_ge, o_les, o_eq, o_ne, o_eqs, o_nes, o_eqb, o_neb, o_is, o_isNot, o_iadd, o_neg, b_int, b_min, b_max, r7, o_mod (show (0 : Int) < 9 by decide)]
    split
    · simp only [w_ok, w_c, w_v, w_op, w_un, w_b, w_nil, w_cons, w_call, w_tup, w_lst, w_dct0, w_fld, w_meth, w_make, w_mt, w_get2, w_tru, w_asB, w_not, w_and, w_or, w_chain, w_andV, w_orV, w_notV, w_if, w_isi, w_pNone, w_pSome, w_sl, w_nx, w_brk, w_cnt, w_drop, w_ret, w_retN, w_sif, w_raise, gmN, gmT, gmAll, w_asg, w_sfld, w_ssub, w_saug, w_for, w_iseq, w_irng1, w_irng2, slotQ_some, opQ_some, opD_some, getQ_some, opB_some, blQ_bl, tyQ_some, inQ_int, evQ_some, ghQ_some, List.getElem?_cons_zero, List.getElem?_cons_succ, List.set_cons_zero, List.set_cons_succ, List.map_cons, List.map_nil, List.cons_append, List.nil_append, List.replicate, List.length_cons, List.length_nil, o_add, o_sub, o_lt, o_le, o_gt, o_ge, o_les, o_eq, o_ne, o_eqs, o_nes, o_eqb, o_neb, o_is, o_isNot, o_iadd, o_neg, b_int, b_min, b_max, r6, o_mod (show (0 : Int) < 4 by decide), i4]
      exact ⟨by decide, stage14 W hN hw _ _ _ _ _ _ _ _ _ _⟩
    · exact stage14 W hN hw _ _ _ _ _ _ _ _ _ _
  have s11 : ∀ (n : Int) (y10 : Option D), (q_law_11 (cEnv U o rl du r s0 s1 y5 y8 (some (.ref RR)) y10 (some (.str w)) (some (.str u)) (some (.int n)) y14 y15) G).sat (cQ B G U o rl du us kro (N + 1) os.length s0 s1) := fun n y10 => by
    rw [q_law_11, w_seq]
    unfold cEnv
    simp only [w_ok, w_c, w_v, w_op, w_un, w_b, w_nil, w_cons, w_call, w_tup, w_lst, w_dct0, w_fld, w_meth, w_make, w_mt, w_get2, w_tru, w_asB, w_not, w_and, w_or, w_chain, w_andV, w_orV, w_notV, w_if, w_isi, w_pNone, w_pSome, w_sl, w_nx, w_brk, w_cnt, w_drop, w_ret, w_retN, w_sif, w_raise, gmN, gmT, gmAll, w_asg, w_sfld, w_ssub, w_saug, w_for, w_iseq, w_irng1, w_irng2, slotQ_some, opQ_some, opD_some, getQ_some, opB_some, blQ_bl, tyQ_some, inQ_int, evQ_some, ghQ_some, List.getElem?_cons_zero, List.getElem?_cons_succ, List.set_cons_zero, List.set_cons_succ, List.map_cons, List.map_nil, List.cons_append, List.nil_append, List.replicate, List.length_cons, List.length_nil, o_add, o_sub, o_lt, o_le, o_gt, o_ge, o_les, o_eq, o_ne, o_eqs, o_nes, o_eqb, o_neb, o_is, o_isNot, o_iadd, o_neg, b_int, b_min, b_max, r5, o_mod (show (0 : Int) < 2 by decide)]
    split
    · split
      · simp only [w_ok, w_c, w_v, w_op, w_un, w_b, w_nil, w_cons, w_call, w_tup, w_lst, w_dct0, w_fld, w_meth, w_make, w_mt, w_get2, w_tru, w_asB, w_not, w_and, w_or, w_chain, w_andV, w_orV, w_notV, w_if, w_isi, w_pNone, w_pSome, w_sl, w_nx, w_brk, w_cnt, w_drop, w_ret, w_retN, w_sif, w_raise, gmN, gmT, gmAll, w_asg, w_sfld, w_ssub, w_saug, w_for, w_iseq, w_irng1, w_irng2, slotQ_some, opQ_some, opD_some, getQ_some, opB_some, blQ_bl, tyQ_some, inQ_int, evQ_some, ghQ_some, List.getElem?_cons_zero, List.getElem?_cons_succ, List.set_cons_zero, List.set_cons_succ, List.map_cons, List.map_nil, List.cons_append, List.nil_append, List.replicate, List.length_cons, List.length_nil, o_add, o_sub, o_lt, o_le, o_gt, o_ge, o_les, o_eq, o_ne, o_eqs, o_nes, o_eqb, o_neb, o_is, o_isNot, o_iadd, o_neg, b_int, b_min, b_max, r3, b_len hlen, o_mod hl0, ixz, lz]
        exact s12 _ _ _
      · exact s12 _ _ _
    · rw [if_neg Bool.false_ne_true]
      exact s12 _ _ _
  rw [q_law_6, w_seq]
  unfold cEnv
  simp only [w_ok, w_c, w_v, w_op, w_un, w_b, w_nil, w_cons, w_call, w_tup, w_lst, w_dct0, w_fld, w_meth, w_make, w_mt, w_get2, w_tru, w_asB, w_not, w_and, w_or, w_chain, w_andV, w_orV, w_notV, w_if, w_isi, w_pNone, w_pSome, w_sl, w_nx, w_brk, w_cnt, w_drop, w_ret, w_retN, w_sif, w_raise, gmN, gmT, gmAll, w_asg, w_sfld, w_ssub, w_saug, w_for, w_iseq, w_irng1, w_irng2, slotQ_some, opQ_some, opD_some, getQ_some, opB_some, blQ_bl, tyQ_some, inQ_int, evQ_some, ghQ_some, List.getElem?_cons_zero, List.getElem?_cons_succ, List.set_cons_zero, List.set_cons_succ, List.map_cons, List.map_nil, List.cons_append, List.nil_append, List.replicate, List.length_cons, List.length_nil]
  refine ⟨by decide, ?_⟩
  rw [q_law_7, w_seq]; simp only [w_ok, w_c, w_v, w_op, w_un, w_b, w_nil, w_cons, w_call, w_tup, w_lst, w_dct0, w_fld, w_meth, w_make, w_mt, w_get2, w_tru, w_asB, w_not, w_and, w_or, w_chain, w_andV, w_orV, w_notV, w_if, w_isi, w_pNone, w_pSome, w_sl, w_nx, w_brk, w_cnt, w_drop, w_ret, w_retN, w_sif, w_raise, gmN, gmT, gmAll, w_asg, w_sfld, w_ssub, w_saug, w_for, w_iseq, w_irng1, w_irng2, slotQ_some, opQ_some, opD_some, getQ_some, opB_some, blQ_bl, tyQ_some, inQ_int, evQ_some, ghQ_some, List.getElem?_cons_zero, List.getElem?_cons_succ, List.set_cons_zero, List.set_cons_succ, List.map_cons, List.map_nil, List.cons_append, List.nil_append, List.replicate, List.length_cons, List.length_nil, o_add, o_sub, o_lt, o_le, o_gt, o_ge, o_les, o_eq, o_ne, o_eqs, o_nes, o_eqb, o_neb, o_is, o_isNot, o_iadd, o_neg, b_int, b_min, b_max, r1, o_mod (show (0 : Int) < 9 by decide), i9]
  rw [q_law_8, w_seq]; simp only [w_ok, w_c, w_v, w_op, w_un, w_b, w_nil, w_cons, w_call, w_tup, w_lst, w_dct0, w_fld, w_meth, w_make, w_mt, w_get2, w_tru, w_asB, w_not, w_and, w_or, w_chain, w_andV, w_orV, w_notV, w_if, w_isi, w_pNone, w_pSome, w_sl, w_nx, w_brk, w_cnt, w_drop, w_ret, w_retN, w_sif, w_raise, gmN, gmT, gmAll, w_asg, w_sfld, w_ssub, w_saug, w_for, w_iseq, w_irng1, w_irng2, slotQ_some, opQ_some, opD_some, getQ_some, opB_some, blQ_bl, tyQ_some, inQ_int, evQ_some, ghQ_some, List.getElem?_cons_zero, List.getElem?_cons_succ, List.set_cons_zero, List.set_cons_succ, List.map_cons, List.map_nil, List.cons_append, List.nil_append, List.replicate, List.length_cons, List.length_nil, o_add, o_sub, o_lt, o_le, o_gt, o_ge, o_les, o_eq, o_ne, o_eqs, o_nes, o_eqb, o_neb, o_is, o_isNot, o_iadd, o_neg, b_int, b_min, b_max, r2, o_mod (show (0 : Int) < 6 by decide), ixu]
  rw [q_law_9, w_seq]; simp only [w_ok, w_c, w_v, w_op, w_un, w_b, w_nil, w_cons, w_call, w_tup, w_lst, w_dct0, w_fld, w_meth, w_make, w_mt, w_get2, w_tru, w_asB, w_not, w_and, w_or, w_chain, w_andV, w_orV, w_notV, w_if, w_isi, w_pNone, w_pSome, w_sl, w_nx, w_brk, w_cnt, w_drop, w_ret, w_retN, w_sif, w_raise, gmN, gmT, gmAll, w_asg, w_sfld, w_ssub, w_saug, w_for, w_iseq, w_irng1, w_irng2, slotQ_some, opQ_some, opD_some, getQ_some, opB_some, blQ_bl, tyQ_some, inQ_int, evQ_some, ghQ_some, List.getElem?_cons_zero, List.getElem?_cons_succ, List.set_cons_zero, List.set_cons_succ, List.map_cons, List.map_nil, List.cons_append, List.nil_append, List.replicate, List.length_cons, List.length_nil, o_add, o_sub, o_lt, o_le, o_gt, o_ge, o_les, o_eq, o_ne, o_eqs, o_nes, o_eqb, o_neb, o_is, o_isNot, o_iadd, o_neg, b_int, b_min, b_max, r3, b_len hlen, o_mod hl0]
  rw [q_law_10, w_seq]
  simp only [w_ok, w_c, w_v, w_op, w_un, w_b, w_nil, w_cons, w_call, w_tup, w_lst, w_dct0, w_fld, w_meth, w_make, w_mt, w_get2, w_tru, w_asB, w_not, w_and, w_or, w_chain, w_andV, w_orV, w_notV, w_if, w_isi, w_pNone, w_pSome, w_sl, w_nx, w_brk, w_cnt, w_drop, w_ret, w_retN, w_sif, w_raise, gmN, gmT, gmAll, w_asg, w_sfld, w_ssub, w_saug, w_for, w_iseq, w_irng1, w_irng2, slotQ_some, opQ_some, opD_some, getQ_some, opB_some, blQ_bl, tyQ_some, inQ_int, evQ_some, ghQ_some, List.getElem?_cons_zero, List.getElem?_cons_succ, List.set_cons_zero, List.set_cons_succ, List.map_cons, List.map_nil, List.cons_append, List.nil_append, List.replicate, List.length_cons, List.length_nil, o_add, o_sub, o_lt, o_le, o_gt, o_ge, o_les, o_eq, o_ne, o_eqs, o_nes, o_eqb, o_neb, o_is, o_isNot, o_iadd, o_neg, b_int, b_min, b_max, r4, o_mod (show (0 : Int) < 9 by decide)]
  split
  · simp only [w_ok, w_c, w_v, w_op, w_un, w_b, w_nil, w_cons, w_call, w_tup, w_lst, w_dct0, w_fld, w_meth, w_make, w_mt, w_get2, w_tru, w_asB, w_not, w_and, w_or, w_chain, w_andV, w_orV, w_notV, w_if, w_isi, w_pNone, w_pSome, w_sl, w_nx, w_brk, w_cnt, w_drop, w_ret, w_retN, w_sif, w_raise, gmN, gmT, gmAll, w_asg, w_sfld, w_ssub, w_saug, w_for, w_iseq, w_irng1, w_irng2, slotQ_some, opQ_some, opD_some, getQ_some, opB_some, blQ_bl, tyQ_some, inQ_int, evQ_some, ghQ_some, List.getElem?_cons_zero, List.getElem?_cons_succ, List.set_cons_zero, List.set_cons_succ, List.map_cons, List.map_nil, List.cons_append, List.nil_append, List.replicate, List.length_cons, List.length_nil, o_add, o_sub, o_lt, o_le, o_gt, o_ge, o_les, o_eq, o_ne, o_eqs, o_nes, o_eqb, o_neb, o_is, o_isNot, o_iadd, o_neg, b_int, b_min, b_max, b_len hlen, r3, o_mod (show (0 : Int) < 3 by decide), i3]
    exact ⟨by decide, s11 _ _⟩
  · exact s11 _ _
/-- a cell -/
theorem cell_ok (W : Wz B G U o rl du us kro r kn os N) (hN : N ≤ 700) (hus : us.length = 6) (hkr : ∀ i u, i < 5 → us[i]? = some u → (valD kro (.inr u)).isSome = true) (hos : os.length ≤ 63) (cell : Int) (s0 s1 y5 y9 y10 y11 y12 y13 y14 y15 : Option D) :
    (q_law_4 (cEnv U o rl du r s0 s1 y5 (some (.int cell)) y9 y10 y11 y12 y13 y14 y15) G).sat (cQ B G U o rl du us kro (N + 2) (os.length + 1) s0 s1) := by
  obtain ⟨row, hr1, hr2⟩ := numbers_eq cell 8 (by decide) G
  have hr2 : m_law_numbers [.int cell, .int 8] G = .ok (.ref G.n) (G.push (.lst (row.map D.int))) := hr2
  have f0 := Mi.Fr.push G (.lst (row.map D.int))
  have W1 := W.fr f0
  have hR : (G.push (.lst (row.map D.int))).ob G.n = .lst (row.map D.int) := ob_push_same _ _
  have hBG := W.lt
  have n1 : (G.push (.lst (row.map D.int))).n = G.n + 1 := n_push _ _
  rw [q_law_4, w_seq]
  unfold cEnv
  simp only [w_ok, w_c, w_v, w_op, w_un, w_b, w_nil, w_cons, w_call, w_tup, w_lst, w_dct0, w_fld, w_meth, w_make, w_mt, w_get2, w_tru, w_asB, w_not, w_and, w_or, w_chain, w_andV, w_orV, w_notV, w_if, w_isi, w_pNone, w_pSome, w_sl, w_nx, w_brk, w_cnt, w_drop, w_ret, w_retN, w_sif, w_raise, gmN, gmT, gmAll, w_asg, w_sfld, w_ssub, w_saug, w_for, w_iseq, w_irng1, w_irng2, slotQ_some, opQ_some, opD_some, getQ_some, opB_some, blQ_bl, tyQ_some, inQ_int, evQ_some, ghQ_some, List.getElem?_cons_zero, List.getElem?_cons_succ, List.set_cons_zero, List.set_cons_succ, List.map_cons, List.map_nil, List.cons_append, List.nil_append, List.replicate, List.length_cons, List.length_nil, hr2]
  have low1 : Low B o du G (G.push (.lst (row.map D.int))) := fun j hj _ _ _ _ => f0.2 j (by omega)
  generalize G.push (.lst (row.map D.int)) = G1 at hr2 f0 W1 hR low1 n1
  have r0 := row_ix hR 0 (by omega)
  have r4 := row_ix hR 4 (by omega)
  have r5 := row_ix hR 5 (by omega)
  have r6 := row_ix hR 6 (by omega)
  have up : ∀ {s : Ro} {N' L' : Nat}, N' ≤ N + 2 → L' ≤ os.length + 1 → s.sat (cQ B G1 U o rl du us kro N' L' s0 s1) → s.sat (cQ B G U o rl du us kro (N + 2) (os.length + 1) s0 s1) := fun {s N' L'} hN' hL' h => by
    refine Ro.sat_mono h ?_ (fun _ _ z => z) (fun _ _ _ z => z) (fun _ _ z => z) (fun _ _ z => z)
    rintro e G2 ⟨r, kn, os, y5, y8, y9, y10, y11, y12, y13, y14, y15, he, W, hL, l⟩
    refine ⟨r, kn, os, y5, y8, y9, y10, y11, y12, y13, y14, y15, he, ?_, by omega, fun j a b c d e => (l j a b c d e).trans (low1 j a b c d e)⟩
    obtain ⟨p1, p2⟩ := W.len
    exact { W with hgd := fun z hz => (W.hgd z hz).le hN', len := ⟨by omega, by omega⟩ }
  have six : 0 < os.length → (q_law_6 (cEnv U o rl du r s0 s1 y5 (some (.int cell)) (some (.ref G.n)) y10 y11 y12 y13 y14 y15) G1).sat (cQ B G U o rl du us kro (N + 2) (os.length + 1) s0 s1) := fun h0 => up (by omega) (by omega) (stage6 W1 (by omega) h0 hR hr1 hus _ _ _ _ _ _ _ _ _ _)
  have three : (q_law_3 (cEnv U o rl du r s0 s1 y5 (some (.int cell)) (some (.ref G.n)) y10 y11 y12 y13 y14 y15) G1).sat ⟨fun e G2 => (q_law_6 e G2).sat (cQ B G U o rl du us kro (N + 2) (os.length + 1) s0 s1), fun _ _ => False, fun _ _ _ => False, fun _ _ => False, fun _ _ => False⟩ := by
    have pl : ∀ (r' : Int × Str) (G2 : Gh), Wz B G2 U o rl du us kro r' kn os N → Low B o du G1 G2 → G2.ob G.n = .lst (row.map D.int) → G.n < G2.n → (sIf (bNot (tru (eCall m_law_placed (aCons (eVar 3) (aCons (eVar 7) (aCons (eVar 9) (aCons (eVar 2) (aCons (eVar 6) aNil)))))))) (sRet (eC (.bl false))) sNx (cEnv U o rl du r' s0 s1 y5 (some (.int cell)) (some (.ref G.n)) y10 y11 y12 y13 y14 y15) G2).sat ⟨fun e G2 => (q_law_6 e G2).sat (cQ B G U o rl du us kro (N + 2) (os.length + 1) s0 s1), fun _ _ => False, fun _ _ _ => False, fun _ _ => False, fun _ _ => False⟩ := fun r' G2 W2 low2 hR2 hn2 => by
      obtain ⟨G3, kn3, os3, e3, W3, hl3, low3, hi3⟩ := placed_ok W2 (by omega) hos hR2 hr1 hus hkr
      unfold cEnv
      simp only [w_ok, w_c, w_v, w_op, w_un, w_b, w_nil, w_cons, w_call, w_tup, w_lst, w_dct0, w_fld, w_meth, w_make, w_mt, w_get2, w_tru, w_asB, w_not, w_and, w_or, w_chain, w_andV, w_orV, w_notV, w_if, w_isi, w_pNone, w_pSome, w_sl, w_nx, w_brk, w_cnt, w_drop, w_ret, w_retN, w_sif, w_raise, gmN, gmT, gmAll, w_asg, w_sfld, w_ssub, w_saug, w_for, w_iseq, w_irng1, w_irng2, slotQ_some, opQ_some, opD_some, getQ_some, opB_some, blQ_bl, tyQ_some, inQ_int, evQ_some, ghQ_some, List.getElem?_cons_zero, List.getElem?_cons_succ, List.set_cons_zero, List.set_cons_succ, List.map_cons, List.map_nil, List.cons_append, List.nil_append, List.replicate, List.length_cons, List.length_nil, e3, truD, Bool.not_true, Bool.false_eq_true, if_false]
      have st := stage6 W3 (by omega) (by omega) ((hi3 _ (by omega) hn2).trans hR2) hr1 hus s0 s1 y5 (some (.int cell)) y10 y11 y12 y13 y14 y15
      refine up (Nat.le_refl _) (Nat.le_of_eq hl3) (cQ_low st fun j a b c d e => (low3 j a b c d e).trans (low2 j a b c d e))
    rw [q_law_3, w_seq]
    have i3 : ∃ s : Str, roleB s = true ∧ opIx (.tup [.str "teller", .str "officer", .str "chief"]) (.int (rv row 6 % 3)) G1 = some (.str s, G1) := by
      have : rv row 6 % 3 = 0 ∨ rv row 6 % 3 = 1 ∨ rv row 6 % 3 = 2 := by omega
      rcases this with h | h | h <;> rw [h]
      · exact ⟨_, by decide +kernel, ix_tup rfl⟩
      · exact ⟨_, by decide +kernel, ix_tup rfl⟩
      · exact ⟨_, by decide +kernel, ix_tup rfl⟩
    obtain ⟨s3, hs3, i3⟩ := i3
    rw [w_sif]
    unfold cEnv
    simp only [w_asB, w_op, w_b, w_cons, w_nil, w_v, w_c, List.getElem?_cons_zero, List.getElem?_cons_succ, slotQ_some, r4, opQ_some, b_int, o_mod (show (0 : Int) < 3 by decide), o_eq, blQ_bl]
    split
    · obtain ⟨G2, e2, W2, low2, hn2⟩ := rule_ok W1 (rv row 5 % 6, s3) ⟨by show 0 ≤ rv row 5 % 6; omega, by show rv row 5 % 6 ≤ 5; omega, hs3⟩
      have t0 : ∀ G, opIx (.tup [.int (rv row 5 % 6), .str s3]) (.int 0) G = some (.int (rv row 5 % 6), G) := fun G => ix_tup rfl
      have t1 : ∀ G, opIx (.tup [.int (rv row 5 % 6), .str s3]) (.int 1) G = some (.str s3, G) := fun G => ix_tup rfl
      rw [q_law_2, w_seq]
      simp only [w_ok, w_c, w_v, w_op, w_un, w_b, w_nil, w_cons, w_call, w_tup, w_lst, w_dct0, w_fld, w_meth, w_make, w_mt, w_get2, w_tru, w_asB, w_not, w_and, w_or, w_chain, w_andV, w_orV, w_notV, w_if, w_isi, w_pNone, w_pSome, w_sl, w_nx, w_brk, w_cnt, w_drop, w_ret, w_retN, w_sif, w_raise, gmN, gmT, gmAll, w_asg, w_sfld, w_ssub, w_saug, w_for, w_iseq, w_irng1, w_irng2, slotQ_some, opQ_some, opD_some, getQ_some, opB_some, blQ_bl, tyQ_some, inQ_int, evQ_some, ghQ_some, List.getElem?_cons_zero, List.getElem?_cons_succ, List.set_cons_zero, List.set_cons_succ, List.map_cons, List.map_nil, List.cons_append, List.nil_append, List.replicate, List.length_cons, List.length_nil, o_add, o_sub, o_lt, o_le, o_gt, o_ge, o_les, o_eq, o_ne, o_eqs, o_nes, o_eqb, o_neb, o_is, o_isNot, o_iadd, o_neg, b_int, b_min, b_max, r5, r6, o_mod (show (0 : Int) < 6 by decide), o_mod (show (0 : Int) < 3 by decide), i3]
      refine ⟨by decide, by decide, ?_⟩
      rw [insQ_of W1.ho]
      simp only [t0, t1, w_ok, w_c, w_v, w_op, w_un, w_b, w_nil, w_cons, w_call, w_tup, w_lst, w_dct0, w_fld, w_meth, w_make, w_mt, w_get2, w_tru, w_asB, w_not, w_and, w_or, w_chain, w_andV, w_orV, w_notV, w_if, w_isi, w_pNone, w_pSome, w_sl, w_nx, w_brk, w_cnt, w_drop, w_ret, w_retN, w_sif, w_raise, gmN, gmT, gmAll, w_asg, w_sfld, w_ssub, w_saug, w_for, w_iseq, w_irng1, w_irng2, slotQ_some, opQ_some, opD_some, getQ_some, opB_some, blQ_bl, tyQ_some, inQ_int, evQ_some, ghQ_some, List.getElem?_cons_zero, List.getElem?_cons_succ, List.set_cons_zero, List.set_cons_succ, List.map_cons, List.map_nil, List.cons_append, List.nil_append, List.replicate, List.length_cons, List.length_nil]
      refine ⟨by decide, by decide, ?_⟩
      simp only [e2, w_ok, w_c, w_v, w_op, w_un, w_b, w_nil, w_cons, w_call, w_tup, w_lst, w_dct0, w_fld, w_meth, w_make, w_mt, w_get2, w_tru, w_asB, w_not, w_and, w_or, w_chain, w_andV, w_orV, w_notV, w_if, w_isi, w_pNone, w_pSome, w_sl, w_nx, w_brk, w_cnt, w_drop, w_ret, w_retN, w_sif, w_raise, gmN, gmT, gmAll, w_asg, w_sfld, w_ssub, w_saug, w_for, w_iseq, w_irng1, w_irng2, slotQ_some, opQ_some, opD_some, getQ_some, opB_some, blQ_bl, tyQ_some, inQ_int, evQ_some, ghQ_some, List.getElem?_cons_zero, List.getElem?_cons_succ, List.set_cons_zero, List.set_cons_succ, List.map_cons, List.map_nil, List.cons_append, List.nil_append, List.replicate, List.length_cons, List.length_nil]
      have p := pl (rv row 5 % 6, s3) G2 W2 (fun j hj h2 _ _ _ => low2 j (by omega) h2) ((low2 _ (by omega) (by omega)).trans hR) (by omega)
      unfold cEnv at p
      simp only [w_ok, w_c, w_v, w_op, w_un, w_b, w_nil, w_cons, w_call, w_tup, w_lst, w_dct0, w_fld, w_meth, w_make, w_mt, w_get2, w_tru, w_asB, w_not, w_and, w_or, w_chain, w_andV, w_orV, w_notV, w_if, w_isi, w_pNone, w_pSome, w_sl, w_nx, w_brk, w_cnt, w_drop, w_ret, w_retN, w_sif, w_raise, gmN, gmT, gmAll, w_asg, w_sfld, w_ssub, w_saug, w_for, w_iseq, w_irng1, w_irng2, slotQ_some, opQ_some, opD_some, getQ_some, opB_some, blQ_bl, tyQ_some, inQ_int, evQ_some, ghQ_some, List.getElem?_cons_zero, List.getElem?_cons_succ, List.set_cons_zero, List.set_cons_succ, List.map_cons, List.map_nil, List.cons_append, List.nil_append, List.replicate, List.length_cons, List.length_nil] at p
      exact p
    · rw [w_nx]
      exact pl r G1 W1 (fun _ _ _ _ _ _ => rfl) hR (by omega)
  rw [q_law_5, w_seq, w_sif]
  simp only [w_or, w_not, w_tru, w_asB, w_op, w_b, w_cons, w_nil, w_v, w_c, List.getElem?_cons_zero, List.getElem?_cons_succ, slotQ_some, r0, opQ_some, b_int, o_mod (show (0 : Int) < 6 by decide), o_eq, blQ_bl, tru_lst W1.hdu, opB_some]
  split
  · exact three
  · cases hm : (os.map fun z => D.ref z.ll).isEmpty with
    | true => exact three
    | false =>
      rw [if_neg (by decide), w_nx]
      refine six ?_
      cases os with
      | nil => cases hm
      | cons a t => exact Nat.succ_pos _
end
end Lw
namespace Lw
open PySem PySem.Spec PyProof.Rows L2 Mi
/-! k50: the law -/
theorem law_ok (ns : List Int) (hl : ns.length ≤ 63) (hb : ∀ z ∈ ns, PySem.Builtin.Int.intBits z ≤ 1048576) : ∃ G, m_law [.rol (ns.map D.int)] ⟨0, fun _ => .lst []⟩ = .ok (.bl true) G := by
  generalize hG0 : (⟨0, fun _ => .lst []⟩ : Gh) = G0
  have key : (m_law [.rol (ns.map D.int)] G0).sat (fun d G' => d = .bl true) nE := by
    unfold m_law b_law
    rw [w_fun]
    refine ⟨rfl, ?_⟩
    have s18 : ∀ (R : Nat) (row : List Int) (G : Gh), G.ob R = .lst (row.map D.int) → R < G.n → row.length = 14 → (q_law_18 ([some (.rol (ns.map D.int)), some (.ref R), none, none, none, none, none, none, none, none, none, none, none, none, none, none] : Ev) G).sat ⟨fun _ G1 => False, fun d G1 => d = .bl true, fun _ _ _ => False, fun _ _ => False, fun _ _ => False⟩ := fun R row G hR hRn hlen => by
      obtain ⟨l, hl6, hnd, hnm, e1⟩ := law_users_ok hR hRn hlen
      rw [q_law_18, w_seq]; simp only [w_ok, w_c, w_v, w_op, w_un, w_b, w_nil, w_cons, w_call, w_tup, w_lst, w_dct0, w_fld, w_meth, w_make, w_mt, w_get2, w_tru, w_asB, w_not, w_and, w_or, w_chain, w_andV, w_orV, w_notV, w_if, w_isi, w_pNone, w_pSome, w_sl, w_nx, w_brk, w_cnt, w_drop, w_ret, w_retN, w_sif, w_raise, gmN, gmT, gmAll, w_asg, w_sfld, w_ssub, w_saug, w_for, w_iseq, w_irng1, w_irng2, slotQ_some, opQ_some, opD_some, getQ_some, opB_some, blQ_bl, tyQ_some, inQ_int, evQ_some, ghQ_some, List.getElem?_cons_zero, List.getElem?_cons_succ, List.set_cons_zero, List.set_cons_succ, List.map_cons, List.map_nil, List.cons_append, List.nil_append, List.replicate, List.length_cons, List.length_nil, o_add, o_sub, o_lt, o_le, o_gt, o_ge, o_les, o_eq, o_ne, o_eqs, o_nes, o_eqb, o_neb, o_is, o_isNot, o_iadd, o_neg, b_int, b_min, b_max, e1]
      obtain ⟨us, hus⟩ : ∃ us : List Str, us = l.map nmS := ⟨_, rfl⟩
      have hum : (l.map fun z => D.str (nmS z)) = us.map D.str := by rw [hus, List.map_map]; rfl
      rw [hum]
      have hu6 : us.length = 6 := by rw [hus, List.length_map, hl6]
      have hund : us.Nodup := by
        rw [hus]
        exact List.Pairwise.map nmS (fun a b h e => h (congrArg (fun z => z.cps.toList) e)) hnd
      have hun : ∀ u ∈ us, nameB u.cps.toList = true ∧ u.length ≤ 12 := fun u hu => by
        rw [hus] at hu
        obtain ⟨z, hz, rfl⟩ := List.mem_map.mp hu
        exact ⟨hnm z hz, by rw [nm_len]; exact (nameB_gn (hnm z hz)).2.2⟩
      have kU : (G.push (.lst (us.map D.str))).ob G.n = .lst (us.map D.str) := ob_push_same _ _
      have nU : (G.push (.lst (us.map D.str))).n = G.n + 1 := n_push _ _
      have hR1 : (G.push (.lst (us.map D.str))).ob R = .lst (row.map D.int) := push_ob hR hRn _
      generalize G.push (.lst (us.map D.str)) = G1 at kU nU hR1 ⊢
      obtain ⟨G2, e5, f2, n2, a1, a2, a3, a4, a5⟩ := init_ords G1
      rw [q_law_19, w_seq]; simp only [w_ok, w_c, w_v, w_op, w_un, w_b, w_nil, w_cons, w_call, w_tup, w_lst, w_dct0, w_fld, w_meth, w_make, w_mt, w_get2, w_tru, w_asB, w_not, w_and, w_or, w_chain, w_andV, w_orV, w_notV, w_if, w_isi, w_pNone, w_pSome, w_sl, w_nx, w_brk, w_cnt, w_drop, w_ret, w_retN, w_sif, w_raise, gmN, gmT, gmAll, w_asg, w_sfld, w_ssub, w_saug, w_for, w_iseq, w_irng1, w_irng2, slotQ_some, opQ_some, opD_some, getQ_some, opB_some, blQ_bl, tyQ_some, inQ_int, evQ_some, ghQ_some, List.getElem?_cons_zero, List.getElem?_cons_succ, List.set_cons_zero, List.set_cons_succ, List.map_cons, List.map_nil, List.cons_append, List.nil_append, List.replicate, List.length_cons, List.length_nil, o_add, o_sub, o_lt, o_le, o_gt, o_ge, o_les, o_eq, o_ne, o_eqs, o_nes, o_eqb, o_neb, o_is, o_isNot, o_iadd, o_neg, b_int, b_min, b_max, e5, true_and]
      have g2 := f2.1
      have hR2 : G2.ob R = .lst (row.map D.int) := (f2.2 _ (by omega)).trans hR1
      have kU2 : G2.ob G.n = .lst (us.map D.str) := (f2.2 _ (by omega)).trans kU
      rw [q_law_20, w_seq]; simp only [w_ok, w_c, w_v, w_op, w_un, w_b, w_nil, w_cons, w_call, w_tup, w_lst, w_dct0, w_fld, w_meth, w_make, w_mt, w_get2, w_tru, w_asB, w_not, w_and, w_or, w_chain, w_andV, w_orV, w_notV, w_if, w_isi, w_pNone, w_pSome, w_sl, w_nx, w_brk, w_cnt, w_drop, w_ret, w_retN, w_sif, w_raise, gmN, gmT, gmAll, w_asg, w_sfld, w_ssub, w_saug, w_for, w_iseq, w_irng1, w_irng2, slotQ_some, opQ_some, opD_some, getQ_some, opB_some, blQ_bl, tyQ_some, inQ_int, evQ_some, ghQ_some, List.getElem?_cons_zero, List.getElem?_cons_succ, List.set_cons_zero, List.set_cons_succ, List.map_cons, List.map_nil, List.cons_append, List.nil_append, List.replicate, List.length_cons, List.length_nil, o_add, o_sub, o_lt, o_le, o_gt, o_ge, o_les, o_eq, o_ne, o_eqs, o_nes, o_eqb, o_neb, o_is, o_isNot, o_iadd, o_neg, b_int, b_min, b_max]
      have fd := Mi.Fr.push G2 (.dct [])
      have kd : (G2.push (.dct [])).ob G2.n = .dct [] := ob_push_same _ _
      have nd : (G2.push (.dct [])).n = G2.n + 1 := n_push _ _
      have b1 := (fd.2 G1.n (by omega)).trans a1
      have b2 := (fd.2 (G1.n + 1) (by omega)).trans a2
      have b3 := (fd.2 (G1.n + 2) (by omega)).trans a3
      have b4 := (fd.2 (G1.n + 3) (by omega)).trans a4
      have b5 := (fd.2 (G1.n + 4) (by omega)).trans a5
      have bR := (fd.2 R (by omega)).trans hR2
      have bU := (fd.2 G.n (by omega)).trans kU2
      generalize G2.push (.dct []) = G3 at kd nd b1 b2 b3 b4 b5 bR bU ⊢
      rw [q_law_21, w_seq, w_for, w_irng1]
      simp only [w_cons, w_c, w_nil]
      show imQ (rngI 0 5) _
      refine rng_sat ⟨by omega⟩ (fun k e G' => ∃ (kro : List (Key × D)) (y5 : Option D), e = [some (.rol (ns.map D.int)), some (.ref R), some (.ref G.n), some (.ref G1.n), some (.ref G2.n), y5, none, none, none, none, none, none, none, none, none, none] ∧ G'.ob (G1.n + 1) = .dct kro ∧ G'.ob G2.n = .dct kro ∧ kro.length ≤ k ∧ (∀ i u, i < k → us[i]? = some u → (valD kro (.inr u)).isSome = true) ∧ (∀ (x : Str) v, valD kro (.inr x) = some v → (∃ s, v = .str s ∧ roleB s = true) ∧ ∃ i, i < k ∧ us[i]? = some x) ∧ G3.n ≤ G'.n ∧ ∀ j, j < G3.n → j ≠ G1.n + 1 → j ≠ G2.n → G'.ob j = G3.ob j)
        ⟨[], none, rfl, b2, kd, Nat.le_refl _, fun i u hi => absurd hi (Nat.not_lt_zero _), fun x v hv => (by cases hv), Nat.le_refl _, fun _ _ _ _ => rfl⟩ ?_ ?_
      · rintro k e G' hk ⟨kro, y5, rfl, h1, h2, h3, h4, h5, h6, h7⟩
        have hk : k < 5 := hk
        obtain ⟨u, hu⟩ : ∃ u, us[k]? = some u := ⟨_, List.getElem?_eq_getElem (show k < us.length by omega)⟩
        obtain ⟨hnu, hlu⟩ := hun u (List.mem_of_getElem? hu)
        have ho' := (h7 G1.n (by omega) (by omega) (by omega)).trans b1
        have hR' := (h7 R (by omega) (by omega) (by omega)).trans bR
        have hU' := (h7 G.n (by omega) (by omega) (by omega)).trans bU
        have rk := row_ix hR' (7 + (0 + (k : Int))) (by omega)
        have ixu : opIx (.ref G.n) (.int (0 + (k : Int))) G' = some (.str u, G') := ix_lst hU' (atI_get (by rw [List.getElem?_map, hu]; rfl))
        have i4 : ∃ s : Str, roleB s = true ∧ opIx (.tup [.str "teller", .str "officer", .str "chief", .str "chief"]) (.int (rv row (7 + (0 + (k : Int))) % 4)) G' = some (.str s, G') := by
          have : rv row (7 + (0 + (k : Int))) % 4 = 0 ∨ rv row (7 + (0 + (k : Int))) % 4 = 1 ∨ rv row (7 + (0 + (k : Int))) % 4 = 2 ∨ rv row (7 + (0 + (k : Int))) % 4 = 3 := by omega
          rcases this with h | h | h | h <;> rw [h]
          · exact ⟨_, by decide +kernel, ix_tup rfl⟩
          · exact ⟨_, by decide +kernel, ix_tup rfl⟩
          · exact ⟨_, by decide +kernel, ix_tup rfl⟩
          · exact ⟨_, by decide +kernel, ix_tup rfl⟩
        obtain ⟨s4, hs4, i4⟩ := i4
        have hnone : valD kro (.inr u) = none := by
          cases hv : valD kro (.inr u) with
          | none => rfl
          | some v =>
            obtain ⟨_, i, hi, hiu⟩ := h5 u v hv
            have hki : k < us.length := (List.getElem?_eq_some_iff.mp hu).1
            have := (List.getElem?_inj (show i < us.length by omega) hund).mp (hiu.trans hu.symm)
            omega
        have hset : setO (.ref G2.n) (.str u) (.str s4) G' = some (G'.set G2.n (.dct (putD kro (.inr u) (.str s4)))) := set_dct h2 rfl (sz2 (by omega))
        have hrl1 : (G'.set G2.n (.dct (putD kro (.inr u) (.str s4)))).ob G2.n = .dct (putD kro (.inr u) (.str s4)) := ob_set_same _ _ _
        have f8 : ∀ j, j ≠ G2.n → (G'.set G2.n (.dct (putD kro (.inr u) (.str s4)))).ob j = G'.ob j := fun j hj => ob_set_ne _ _ hj
        have n8 : (G'.set G2.n (.dct (putD kro (.inr u) (.str s4)))).n = G'.n := n_set _ _ _
        generalize G'.set G2.n (.dct (putD kro (.inr u) (.str s4))) = G8 at hset hrl1 f8 n8
        have ho8 := (f8 G1.n (by omega)).trans ho'
        obtain ⟨G9, e9, f9⟩ := add_user_ok ho8 (by omega) ((f8 (G1.n + 1) (by omega)).trans h1) (by omega) u s4 (by omega) hnu hs4 hnone
        have g9 := f9.1
        have ixu8 : opIx (.ref G.n) (.int (0 + (k : Int))) G8 = some (.str u, G8) := ix_lst ((f8 G.n (by omega)).trans hU') (atI_get (by rw [List.getElem?_map, hu]; rfl))
        have ixr : opIx (.ref G2.n) (.str u) G8 = some (.str s4, G8) := ix_dct hrl1 rfl (by rw [valD_put, if_pos rfl])
        simp only [gmN, evQ_some, List.set_cons_succ, List.set_cons_zero]
        rw [q_law_1, w_seq]
        simp only [w_ok, w_c, w_v, w_op, w_un, w_b, w_nil, w_cons, w_call, w_tup, w_lst, w_dct0, w_fld, w_meth, w_make, w_mt, w_get2, w_tru, w_asB, w_not, w_and, w_or, w_chain, w_andV, w_orV, w_notV, w_if, w_isi, w_pNone, w_pSome, w_sl, w_nx, w_brk, w_cnt, w_drop, w_ret, w_retN, w_sif, w_raise, gmN, gmT, gmAll, w_asg, w_sfld, w_ssub, w_saug, w_for, w_iseq, w_irng1, w_irng2, slotQ_some, opQ_some, opD_some, getQ_some, opB_some, blQ_bl, tyQ_some, inQ_int, evQ_some, ghQ_some, List.getElem?_cons_zero, List.getElem?_cons_succ, List.set_cons_zero, List.set_cons_succ, List.map_cons, List.map_nil, List.cons_append, List.nil_append, List.replicate, List.length_cons, List.length_nil, o_add, o_sub, o_lt, o_le, o_gt, o_ge, o_les, o_eq, o_ne, o_eqs, o_nes, o_eqb, o_neb, o_is, o_isNot, o_iadd, o_neg, b_int, b_min, b_max, rk, o_mod (show (0 : Int) < 4 by decide), i4]
        refine ⟨by decide, ?_⟩
        simp only [w_ok, w_c, w_v, w_op, w_un, w_b, w_nil, w_cons, w_call, w_tup, w_lst, w_dct0, w_fld, w_meth, w_make, w_mt, w_get2, w_tru, w_asB, w_not, w_and, w_or, w_chain, w_andV, w_orV, w_notV, w_if, w_isi, w_pNone, w_pSome, w_sl, w_nx, w_brk, w_cnt, w_drop, w_ret, w_retN, w_sif, w_raise, gmN, gmT, gmAll, w_asg, w_sfld, w_ssub, w_saug, w_for, w_iseq, w_irng1, w_irng2, slotQ_some, opQ_some, opD_some, getQ_some, opB_some, blQ_bl, tyQ_some, inQ_int, evQ_some, ghQ_some, List.getElem?_cons_zero, List.getElem?_cons_succ, List.set_cons_zero, List.set_cons_succ, List.map_cons, List.map_nil, List.cons_append, List.nil_append, List.replicate, List.length_cons, List.length_nil, ixu, hset, insQ_of ho8, ixu8, ixr, e9]
        refine ⟨putD kro (.inr u) (.str s4), _, rfl, ob_set_same _ _ _, ?_, Nat.le_trans (put_len _ _ _) (by omega), fun i u' hi hu' => ?_, fun x v hv => ?_, by rw [n_set]; omega, fun j hj m1 m2 => ?_⟩
        · rw [ob_set_ne _ _ (by omega), f9.2 _ (by omega)]; exact hrl1
        · rw [valD_put]
          split
          · rfl
          · rename_i hne
            by_cases hik : i = k
            · subst hik
              rw [hu] at hu'
              cases hu'
              exact absurd rfl hne
            · exact h4 i u' (by omega) hu'
        · rw [valD_put] at hv
          split at hv
          · rename_i hx
            cases hv
            have := Sum.inr.inj hx
            subst this
            exact ⟨⟨s4, rfl, hs4⟩, k, by omega, hu⟩
          · obtain ⟨q1, i, q2, q3⟩ := h5 x v hv
            exact ⟨q1, i, by omega, q3⟩
        · rw [ob_set_ne _ _ m1, f9.2 _ (by omega), f8 _ m2, h7 _ hj m1 m2]
      · rintro e G' ⟨kro, y5, rfl, h1, h2, h3, h4, h5, h6, h7⟩
        have ho' := (h7 G1.n (by omega) (by omega) (by omega)).trans b1
        have hR' := (h7 R (by omega) (by omega) (by omega)).trans bR
        have hU' := (h7 G.n (by omega) (by omega) (by omega)).trans bU
        have hru' := (h7 (G1.n + 2) (by omega) (by omega) (by omega)).trans b3
        have hpl' := (h7 (G1.n + 3) (by omega) (by omega) (by omega)).trans b4
        have hnb' := (h7 (G1.n + 4) (by omega) (by omega) (by omega)).trans b5
        have r12 := row_ix hR' 12 (by omega)
        have r13 := row_ix hR' 13 (by omega)
        have i3 : ∃ s : Str, roleB s = true ∧ opIx (.tup [.str "teller", .str "officer", .str "chief"]) (.int (rv row 13 % 3)) G' = some (.str s, G') := by
          have : rv row 13 % 3 = 0 ∨ rv row 13 % 3 = 1 ∨ rv row 13 % 3 = 2 := by omega
          rcases this with h | h | h <;> rw [h]
          · exact ⟨_, by decide +kernel, ix_tup rfl⟩
          · exact ⟨_, by decide +kernel, ix_tup rfl⟩
          · exact ⟨_, by decide +kernel, ix_tup rfl⟩
        obtain ⟨s3, hs3, i3⟩ := i3
        have hr : 0 ≤ ((rv row 12 % 4, s3) : Int × Str).1 ∧ ((rv row 12 % 4, s3) : Int × Str).1 ≤ 5 ∧ roleB ((rv row 12 % 4, s3) : Int × Str).2 = true := ⟨by show 0 ≤ rv row 12 % 4; omega, by show rv row 12 % 4 ≤ 5; omega, hs3⟩
        have t0 : ∀ G, opIx (.tup [.int (rv row 12 % 4), .str s3]) (.int 0) G = some (.int (rv row 12 % 4), G) := fun G => ix_tup rfl
        have t1 : ∀ G, opIx (.tup [.int (rv row 12 % 4), .str s3]) (.int 1) G = some (.str s3, G) := fun G => ix_tup rfl
        have fp := Mi.Fr.push G' (.lst [.tup [.int 0, .int (rv row 12 % 4), .str s3]])
        have kp : (G'.push (.lst [.tup [.int 0, .int (rv row 12 % 4), .str s3]])).ob G'.n = .lst (([(0, rv row 12 % 4, s3)] : List Rw).map rowD) := ob_push_same _ _
        have np : (G'.push (.lst [.tup [.int 0, .int (rv row 12 % 4), .str s3]])).n = G'.n + 1 := n_push _ _
        dsimp only
        rw [q_law_22, w_seq]
        simp only [w_ok, w_c, w_v, w_op, w_un, w_b, w_nil, w_cons, w_call, w_tup, w_lst, w_dct0, w_fld, w_meth, w_make, w_mt, w_get2, w_tru, w_asB, w_not, w_and, w_or, w_chain, w_andV, w_orV, w_notV, w_if, w_isi, w_pNone, w_pSome, w_sl, w_nx, w_brk, w_cnt, w_drop, w_ret, w_retN, w_sif, w_raise, gmN, gmT, gmAll, w_asg, w_sfld, w_ssub, w_saug, w_for, w_iseq, w_irng1, w_irng2, slotQ_some, opQ_some, opD_some, getQ_some, opB_some, blQ_bl, tyQ_some, inQ_int, evQ_some, ghQ_some, List.getElem?_cons_zero, List.getElem?_cons_succ, List.set_cons_zero, List.set_cons_succ, List.map_cons, List.map_nil, List.cons_append, List.nil_append, List.replicate, List.length_cons, List.length_nil, o_add, o_sub, o_lt, o_le, o_gt, o_ge, o_les, o_eq, o_ne, o_eqs, o_nes, o_eqb, o_neb, o_is, o_isNot, o_iadd, o_neg, b_int, b_min, b_max, r12, r13, o_mod (show (0 : Int) < 4 by decide), o_mod (show (0 : Int) < 3 by decide), i3]
        refine ⟨by decide, by decide, ?_⟩
        rw [q_law_23, w_seq]
        simp only [w_ok, w_c, w_v, w_op, w_un, w_b, w_nil, w_cons, w_call, w_tup, w_lst, w_dct0, w_fld, w_meth, w_make, w_mt, w_get2, w_tru, w_asB, w_not, w_and, w_or, w_chain, w_andV, w_orV, w_notV, w_if, w_isi, w_pNone, w_pSome, w_sl, w_nx, w_brk, w_cnt, w_drop, w_ret, w_retN, w_sif, w_raise, gmN, gmT, gmAll, w_asg, w_sfld, w_ssub, w_saug, w_for, w_iseq, w_irng1, w_irng2, slotQ_some, opQ_some, opD_some, getQ_some, opB_some, blQ_bl, tyQ_some, inQ_int, evQ_some, ghQ_some, List.getElem?_cons_zero, List.getElem?_cons_succ, List.set_cons_zero, List.set_cons_succ, List.map_cons, List.map_nil, List.cons_append, List.nil_append, List.replicate, List.length_cons, List.length_nil]
        rw [insQ_of ho']
        simp only [t0, t1, w_ok, w_c, w_v, w_op, w_un, w_b, w_nil, w_cons, w_call, w_tup, w_lst, w_dct0, w_fld, w_meth, w_make, w_mt, w_get2, w_tru, w_asB, w_not, w_and, w_or, w_chain, w_andV, w_orV, w_notV, w_if, w_isi, w_pNone, w_pSome, w_sl, w_nx, w_brk, w_cnt, w_drop, w_ret, w_retN, w_sif, w_raise, gmN, gmT, gmAll, w_asg, w_sfld, w_ssub, w_saug, w_for, w_iseq, w_irng1, w_irng2, slotQ_some, opQ_some, opD_some, getQ_some, opB_some, blQ_bl, tyQ_some, inQ_int, evQ_some, ghQ_some, List.getElem?_cons_zero, List.getElem?_cons_succ, List.set_cons_zero, List.set_cons_succ, List.map_cons, List.map_nil, List.cons_append, List.nil_append, List.replicate, List.length_cons, List.length_nil]
        refine ⟨by decide, by decide, ?_⟩
        generalize G'.push (.lst [.tup [.int 0, .int (rv row 12 % 4), .str s3]]) = Gp at fp kp np
        obtain ⟨Gq, eq, fq⟩ := set_rule_ok ((fp.2 _ (by omega)).trans ho') (by omega) ((fp.2 _ (by omega)).trans hru') (Nat.zero_le _) kp (by omega) "pay" (by decide +kernel) (by decide +kernel) (good_one (r := (rv row 12 % 4, s3)) hr)
        have gq := fq.1
        simp only [eq, w_ok, w_c, w_v, w_op, w_un, w_b, w_nil, w_cons, w_call, w_tup, w_lst, w_dct0, w_fld, w_meth, w_make, w_mt, w_get2, w_tru, w_asB, w_not, w_and, w_or, w_chain, w_andV, w_orV, w_notV, w_if, w_isi, w_pNone, w_pSome, w_sl, w_nx, w_brk, w_cnt, w_drop, w_ret, w_retN, w_sif, w_raise, gmN, gmT, gmAll, w_asg, w_sfld, w_ssub, w_saug, w_for, w_iseq, w_irng1, w_irng2, slotQ_some, opQ_some, opD_some, getQ_some, opB_some, blQ_bl, tyQ_some, inQ_int, evQ_some, ghQ_some, List.getElem?_cons_zero, List.getElem?_cons_succ, List.set_cons_zero, List.set_cons_succ, List.map_cons, List.map_nil, List.cons_append, List.nil_append, List.replicate, List.length_cons, List.length_nil]
        have f4 : ∀ j, j < G'.n → j ≠ G1.n + 2 → (Gq.set (G1.n + 2) (.dct (putD [] (.inr "pay") (.tup [rowD (0, rv row 12 % 4, s3)])))).ob j = G'.ob j := fun j hj hn => by rw [ob_set_ne _ _ hn, fq.2 _ (by omega)]; exact fp.2 j hj
        have r4 : (Gq.set (G1.n + 2) (.dct (putD [] (.inr "pay") (.tup [rowD (0, rv row 12 % 4, s3)])))).ob (G1.n + 2) = .dct [(.inr "pay", .tup (([(0, rv row 12 % 4, s3)] : List Rw).map rowD))] := ob_set_same _ _ _
        have n4 : (Gq.set (G1.n + 2) (.dct (putD [] (.inr "pay") (.tup [rowD (0, rv row 12 % 4, s3)])))).n = Gq.n := rfl
        generalize Gq.set (G1.n + 2) (.dct (putD [] (.inr "pay") (.tup [rowD (0, rv row 12 % 4, s3)]))) = G4 at f4 r4 n4 ⊢
        rw [q_law_24, w_seq]; simp only [w_ok, w_c, w_v, w_op, w_un, w_b, w_nil, w_cons, w_call, w_tup, w_lst, w_dct0, w_fld, w_meth, w_make, w_mt, w_get2, w_tru, w_asB, w_not, w_and, w_or, w_chain, w_andV, w_orV, w_notV, w_if, w_isi, w_pNone, w_pSome, w_sl, w_nx, w_brk, w_cnt, w_drop, w_ret, w_retN, w_sif, w_raise, gmN, gmT, gmAll, w_asg, w_sfld, w_ssub, w_saug, w_for, w_iseq, w_irng1, w_irng2, slotQ_some, opQ_some, opD_some, getQ_some, opB_some, blQ_bl, tyQ_some, inQ_int, evQ_some, ghQ_some, List.getElem?_cons_zero, List.getElem?_cons_succ, List.set_cons_zero, List.set_cons_succ, List.map_cons, List.map_nil, List.cons_append, List.nil_append, List.replicate, List.length_cons, List.length_nil, o_add, o_sub, o_lt, o_le, o_gt, o_ge, o_les, o_eq, o_ne, o_eqs, o_nes, o_eqb, o_neb, o_is, o_isNot, o_iadd, o_neg, b_int, b_min, b_max]
        refine ⟨Nat.zero_le _, ?_⟩
        have f5 := Mi.Fr.push G4 (.lst [])
        have k5 : (G4.push (.lst [])).ob G4.n = .lst [] := ob_push_same _ _
        have n5 : (G4.push (.lst [])).n = G4.n + 1 := n_push _ _
        generalize G4.push (.lst []) = G5 at f5 k5 n5 ⊢
        have fa : ∀ j, j < G'.n → j ≠ G1.n + 2 → G5.ob j = G'.ob j := fun j hj hn => (f5.2 j (by omega)).trans (f4 j hj hn)
        rw [q_law_25, w_seq, w_for, w_iseq]
        simp only [w_op, w_lst, w_cons, w_nil, w_c, w_sl, w_v, w_pNone, w_pSome, List.getElem?_cons_succ, List.getElem?_cons_zero, slotQ_some, inQ_int, List.length_cons, List.length_nil]
        refine ⟨by decide, ?_⟩
        have sl : slD (.rol (ns.map D.int)) none (some 63) (G5.push (.lst [.int 5])) = some (.ref (G5.n + 1), (G5.push (.lst [.int 5])).push (.lst (ns.map D.int))) := by
          unfold slD
          dsimp only
          have e : Mi.cutD (ns.map D.int) none (some 63) = ns.map D.int := by
            unfold Mi.cutD
            rw [HT.sIx_none, show (some (63 : Int)) = some ((63 : Nat) : Int) from rfl, HT.sIx_nat, List.length_map, Nat.min_eq_right hl, List.drop_zero]
            exact List.take_of_length_le (by rw [List.length_map]; exact Nat.le_refl _)
          rw [e]; rfl
        rw [sl, opQ_some]
        have ad : opAdd (.ref G5.n) (.ref (G5.n + 1)) ((G5.push (.lst [.int 5])).push (.lst (ns.map D.int))) = some (.ref (G5.n + 2), ((G5.push (.lst [.int 5])).push (.lst (ns.map D.int))).push (.lst ((5 :: ns).map D.int))) := by
          have o1 : ((G5.push (.lst [.int 5])).push (.lst (ns.map D.int))).ob G5.n = .lst [.int 5] := by rw [ob_push_ne _ _ (by rw [n_push]; omega), ob_push_same]
          have o2 : ((G5.push (.lst [.int 5])).push (.lst (ns.map D.int))).ob (G5.n + 1) = .lst (ns.map D.int) := ob_push_same (G5.push (.lst [.int 5])) _
          unfold opAdd
          dsimp only
          rw [o1, o2]
          dsimp only
          rw [if_pos (sz1 (by simp; omega))]
          rfl
        rw [ad, opQ_some]
        have f6 := ((Mi.Fr.push G5 (.lst [.int 5])).trans (Mi.Fr.push _ (.lst (ns.map D.int)))).trans (Mi.Fr.push _ (.lst ((5 :: ns).map D.int)))
        have k6 : (((G5.push (.lst [.int 5])).push (.lst (ns.map D.int))).push (.lst ((5 :: ns).map D.int))).ob (G5.n + 2) = .lst ((5 :: ns).map D.int) := ob_push_same ((G5.push (.lst [.int 5])).push (.lst (ns.map D.int))) _
        have n6 : (((G5.push (.lst [.int 5])).push (.lst (ns.map D.int))).push (.lst ((5 :: ns).map D.int))).n = G5.n + 3 := rfl
        generalize ((G5.push (.lst [.int 5])).push (.lst (ns.map D.int))).push (.lst ((5 :: ns).map D.int)) = G6 at f6 k6 n6 ⊢
        have fb : ∀ j, j < G'.n → j ≠ G1.n + 2 → G6.ob j = G'.ob j := fun j hj hn => (f6.2 j (by omega)).trans (fa j hj hn)
        have W : Wz G6.n G6 G.n G1.n G2.n G4.n us kro (rv row 12 % 4, s3) [] [] 0 := by
          refine ⟨(fb _ (by omega) (by omega)).trans hU', (fb _ (by omega) (by omega)).trans ho', (fb _ (by omega) (by omega)).trans h1, (fb _ (by omega) (by omega)).trans h2, ?_, hr, (fb _ (by omega) (by omega)).trans hpl', (fb _ (by omega) (by omega)).trans hnb', ?_, ⟨by omega, by omega, by omega, by omega, Nat.le_refl _⟩, fun z hz => (by cases hz), fun z hz => (by cases hz), fun z hz => (by cases hz), fun x v hv => (h5 x v hv).1, fun z hz => (by cases hz), List.nodup_nil, List.nodup_nil, fun m _ _ => rfl, ⟨Nat.le_refl _, Nat.le_refl _⟩⟩
          · rw [f6.2 _ (by omega), f5.2 _ (by omega)]; exact r4
          · rw [f6.2 _ (by omega)]; exact k5
        have hBn : G5.n + 2 < G6.n := by omega
        have hdu : G4.n < G5.n := by omega
        have hodu : G1.n + 4 < G4.n := by omega
        generalize hBB : G6.n = B at W hBn
        refine seq_lst_sat (l := G5.n + 2) (xs := (5 :: ns).map D.int) k6 (fun k e0 G' => ∃ (r : Int × Str) (kn : List (Key × D)) (os : List Oz) (y5 y8 y9 y10 y11 y12 y13 y14 y15 : Option D), e0 = cEnv G.n G1.n G2.n G4.n r (some (.rol (ns.map D.int))) (some (.ref R)) y5 y8 y9 y10 y11 y12 y13 y14 y15 ∧ Wz B G' G.n G1.n G2.n G4.n us kro r kn os (2 * k) ∧ os.length ≤ k ∧ G'.ob (G5.n + 2) = .lst ((5 :: ns).map D.int))
          ⟨(rv row 12 % 4, s3), [], [], _, _, _, _, _, _, _, _, _, rfl, W, Nat.le_refl _, k6⟩ ?_ ?_ ?_
        · rintro k e0 G' ⟨_, _, _, _, _, _, _, _, _, _, _, _, _, _, _, ho⟩
          exact ho
        · rintro k d e0 G' hd' ⟨r, kn, os, y5, y8, y9, y10, y11, y12, y13, y14, y15, rfl, W, hL, ho⟩
          have hk : k < 64 := by
            have := (List.getElem?_eq_some_iff.mp hd').1
            simp at this
            omega
          rw [List.getElem?_map] at hd'
          obtain ⟨x, hx, rfl⟩ := Option.map_eq_some_iff.mp hd'
          unfold cEnv
          simp only [gmN, evQ_some, List.set_cons_succ, List.set_cons_zero]
          refine Ro.sat_mono (cell_ok W (by omega) hu6 h4 (by omega) x _ _ y5 y9 y10 y11 y12 y13 y14 y15) ?_ (fun _ _ z => z.elim) (fun _ _ _ z => z) (fun _ _ z => z.elim) (fun _ _ z => z.elim)
          rintro e' G2' ⟨r', kn', os', z5, z8, z9, z10, z11, z12, z13, z14, z15, rfl, W', hL', low'⟩
          exact ⟨r', kn', os', _, _, _, _, _, _, _, _, _, rfl, by rw [show 2 * (k + 1) = 2 * k + 2 by omega]; exact W', by omega, (low' _ hBn (by omega) (by omega) (by omega) (by omega)).trans ho⟩
        · rintro e0 G' ⟨r, kn, os, y5, y8, y9, y10, y11, y12, y13, y14, y15, rfl, W, hL, ho⟩
          try dsimp only
          try simp only [w_ok, w_c, w_v, w_op, w_un, w_b, w_nil, w_cons, w_call, w_tup, w_lst, w_dct0, w_fld, w_meth, w_make, w_mt, w_get2, w_tru, w_asB, w_not, w_and, w_or, w_chain, w_andV, w_orV, w_notV, w_if, w_isi, w_pNone, w_pSome, w_sl, w_nx, w_brk, w_cnt, w_drop, w_ret, w_retN, w_sif, w_raise, gmN, gmT, gmAll, w_asg, w_sfld, w_ssub, w_saug, w_for, w_iseq, w_irng1, w_irng2, slotQ_some, opQ_some, opD_some, getQ_some, opB_some, blQ_bl, tyQ_some, inQ_int, evQ_some, ghQ_some, List.getElem?_cons_zero, List.getElem?_cons_succ, List.set_cons_zero, List.set_cons_succ, List.map_cons, List.map_nil, List.cons_append, List.nil_append, List.replicate, List.length_cons, List.length_nil]
    obtain ⟨row, hr1, hr2⟩ := numbers_eq 0 14 (by decide) G0
    have hr2 : m_law_numbers [.int 0, .int 14] G0 = .ok (.ref G0.n) (G0.push (.lst (row.map D.int))) := hr2
    rw [q_law_16, w_seq]; simp only [w_ok, w_c, w_v, w_op, w_un, w_b, w_nil, w_cons, w_call, w_tup, w_lst, w_dct0, w_fld, w_meth, w_make, w_mt, w_get2, w_tru, w_asB, w_not, w_and, w_or, w_chain, w_andV, w_orV, w_notV, w_if, w_isi, w_pNone, w_pSome, w_sl, w_nx, w_brk, w_cnt, w_drop, w_ret, w_retN, w_sif, w_raise, gmN, gmT, gmAll, w_asg, w_sfld, w_ssub, w_saug, w_for, w_iseq, w_irng1, w_irng2, slotQ_some, opQ_some, opD_some, getQ_some, opB_some, blQ_bl, tyQ_some, inQ_int, evQ_some, ghQ_some, List.getElem?_cons_zero, List.getElem?_cons_succ, List.set_cons_zero, List.set_cons_succ, List.map_cons, List.map_nil, List.cons_append, List.nil_append, List.replicate, List.length_cons, List.length_nil, o_add, o_sub, o_lt, o_le, o_gt, o_ge, o_les, o_eq, o_ne, o_eqs, o_nes, o_eqb, o_neb, o_is, o_isNot, o_iadd, o_neg, b_int, b_min, b_max, hr2]
    have hlr : lenD (.rol (ns.map D.int)) (G0.push (.lst (row.map D.int))) = some ns.length := by unfold lenD; dsimp only; rw [List.length_map]
    have post : ∀ (R : Nat) (row : List Int) (G : Gh), G.ob R = .lst (row.map D.int) → R < G.n → row.length = 14 → (q_law_18 ([some (.rol (ns.map D.int)), some (.ref R), none, none, none, none, none, none, none, none, none, none, none, none, none, none] : Ev) G).sat ⟨fun _ G1 => D.non = .bl true, fun d G1 => d = .bl true, fun c _ G1 => nE c G1, fun _ _ => False, fun _ _ => False⟩ := fun R row G h1 h2 h3 =>
      Ro.sat_mono (s18 R row G h1 h2 h3) (fun _ _ z => z.elim) (fun _ _ z => z) (fun _ _ _ z => z.elim) (fun _ _ z => z) (fun _ _ z => z)
    rw [q_law_17, w_seq, w_sif]
    simp only [w_asB, w_op, w_b, w_cons, w_nil, w_v, w_c, List.getElem?_cons_succ, List.getElem?_cons_zero, slotQ_some, b_len hlr, opQ_some, o_gt, blQ_bl]
    split
    · rename_i hpos
      have hpos : 0 < ns.length := by
        have := of_decide_eq_true hpos
        omega
      have ixr : opIx (.rol (ns.map D.int)) (.int 0) (G0.push (.lst (row.map D.int))) = some (.int ns[0], G0.push (.lst (row.map D.int))) := ix_rol (by
        have z := atI_nat (xs := ns.map D.int) (k := 0) (by rw [List.length_map]; exact hpos)
        rw [List.getElem_map] at z
        exact z)
      obtain ⟨row2, hs1, hs2⟩ := numbers_eq ns[0] 14 (by decide) (G0.push (.lst (row.map D.int)))
      have hs2 : m_law_numbers [.int ns[0], .int 14] (G0.push (.lst (row.map D.int))) = .ok (.ref (G0.push (.lst (row.map D.int))).n) ((G0.push (.lst (row.map D.int))).push (.lst (row2.map D.int))) := hs2
      simp only [w_asg, w_call, w_op, w_cons, w_nil, w_v, w_c, List.getElem?_cons_succ, List.getElem?_cons_zero, slotQ_some, opQ_some, ixr, hs2, w_ok, gmN, evQ_some, List.set_cons_succ, List.set_cons_zero]
      exact post _ row2 _ (ob_push_same _ _) (by rw [n_push]; exact Nat.lt_succ_self _) hs1
    · exact post _ row _ (ob_push_same _ _) (by rw [n_push]; exact Nat.lt_succ_self _) hr1
  obtain ⟨d, G', e1, rfl⟩ := Rs.ok_of key
  exact ⟨G', e1⟩
end Lw
open PySem PySem.W PySem.Calls PyProof.Rows in
theorem PySem.Challenge.cw_corebank_k50_grants_of_an_order_holds : PySem.Challenge.rw_corebank_k50_grants_of_an_order.Holds := by
  w_on; o_law
  refine HandSHeadRun.head_any (r := OpenLaw.row PySem.Challenge.rw_corebank_k50_grants_of_an_order) (q := view (OpenLaw.row PySem.Challenge.rw_corebank_k50_grants_of_an_order).prog [38]) (H := Lw.hk) (ob := Lw.ob) (M := 8000) (loose := Lw.nm) (d := HandSHeadRun.topDef (OpenLaw.row PySem.Challenge.rw_corebank_k50_grants_of_an_order).prog 38) (kwd := []) Lw.ob_eq
    (by kernel_rfl) (fun s => by kernel_rfl) Lw.run (by kernel_rfl) (by kernel_rfl) (by kernel_rfl) (by rfl) (by first | assumption | decide +kernel) (by decide +kernel) ⟨rfl, rfl, rfl, rfl, rfl, by decide +kernel⟩ ?hw ?hc
  case hw => w_witness2
  case hc =>
    refine Mi.walk_mi (l := PySem.Challenge.rw_corebank_k50_grants_of_an_order) (n := 63) (k := 11) (x := "_law_script") (m := Lw.m_law) rfl (by decide) rfl ⟨by decide, by decide, by decide⟩ (fun w mg fa h Y ns hm => ?_) Lw.law_ok
    obtain ⟨K, kin, c⟩ := Y
    have T : Lw.TX K mg := Mi.Txt.of c kin ns
    have e := hm.symm.trans (Lw.g_law T)
    cases e
    obtain ⟨fd, F⟩ := T.dfn (d := Lw.d_law) 37 rfl
    refine ⟨K, Lw.tg K, fd, kin, fun s u => F.bindsA (ps := ["_law_script"]) (fun _ _ _ _ _ _ us hl => match us, hl with | [_], _ => rfl) s [u] rfl, fun base _ _ => ?_⟩
    exact Lw.fo_law T F
