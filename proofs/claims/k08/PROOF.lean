import PyProof.Rows.All
import Wide.All
import OpenK.AllK
import Wide.FinOn
import HandS.ForMost
import HandS.ForExc
import HandS.Wide
import HandS.Deep
import HandS.TryMany
import KE.KeyNested
import HandS.Style
import HandS.IsInst
import HandS.SetFor
import HandS.SortInts
import HandS.ExcOwn
import HandS.More
import PyProof.DictFindH
import HandS.Zip
import HandS.Iter
import KE.SortKeyHeap
import HandS.SortKw
import HandS.Keys
import HandS.RaiseMore
import HandS.Text
import HandS.ExcIs
import HandS.Codes
import KE.SortCalls
import KE.SortData
import HandS.Conv
import HandS.DictComp
import PySem.Challenge.RW_askring_k08_whole_each_deed_by_its_looks
set_option Elab.async false
set_option linter.all false
set_option maxRecDepth 100000
set_option maxHeartbeats 4000000
section
/-! DL1: data D with tuples and never-changed lists as plain values, a heap of changing objects, and how they lie over HandS's values and heap. -/
namespace DL
open PySem PySem.Spec PyProof.Rows L2

inductive D where
  | non | bl (b : Bool) | int (i : Int) | str (s : Str) | tup (ds : List D) | lst (ds : List D) | scr (ds : List D) | ref (n : Nat)
inductive DO where
  | lst (ds : List D) | dict (kvs : List (Key × D)) | mix (kvs : List (D × D)) (ep : Nat) | ins (c : String) (fs : List (Str × D)) | exn (c : String)
structure HS where
  h : Nat → Option DO
  n : Nat
def HS.put (s : HS) (a : Nat) (o : DO) : HS := ⟨fun b => if b = a then some o else s.h b, s.n⟩
def HS.new (s : HS) (o : DO) : HS := ⟨fun b => if b = s.n then some o else s.h b, s.n + 1⟩
inductive Res (α : Type) where
  | ok (a : α) (s : HS) | exc (c : String) (s : HS) | bad
def Res.bind {α β : Type} : Res α → (α → HS → Res β) → Res β
  | .ok a s, k => k a s
  | .exc c s, _ => .exc c s
  | .bad, _ => .bad
@[simp] theorem bind_ok {α β : Type} (a : α) (s : HS) (k : α → HS → Res β) : (Res.ok a s).bind k = k a s := (rfl)
@[simp] theorem bind_exc {α β : Type} (c : String) (s : HS) (k : α → HS → Res β) : (Res.exc c s : Res α).bind k = .exc c s := (rfl)
@[simp] theorem bind_bad {α β : Type} (k : α → HS → Res β) : (Res.bad : Res α).bind k = .bad := (rfl)

/-- what all defs of a text share -/
structure Ct where
  K : PySem.W.Frag
  w : World
  cA : String → Addr
/-- which address an object's number has; B: lists under way that no value may be -/
structure Mu where
  f : Nat → Option Addr
  B : Addr → Prop
instance : CoeFun Mu (fun _ => Nat → Option Addr) := ⟨Mu.f⟩
def Mu.un (μ : Mu) (a : Addr) : Prop := (∀ n, μ n ≠ some a) ∧ ¬ μ.B a
mutual
def keyD : D → Option NestedKey
  | .non => some .none
  | .int i => some (.num i)
  | .str s => some (.text s)
  | .tup ds => (keyDs ds).map .tup
  | .bl _ => none
  | .lst _ => none
  | .scr _ => none
  | .ref _ => none
def keyDs : List D → Option (List NestedKey)
  | [] => some []
  | d :: ds => (keyD d).bind fun k => (keyDs ds).map fun ks => k :: ks
end
/-- a list of the written part -/
def KLst (K : PySem.W.Frag) (a : Addr) (xs : List V) : Prop := ∃ (o : Obj) (its : Array Value) (n : Nat), K.lookup a = some o ∧ o.cls = .type "list" ∧ o.dict = none ∧ o.data = .seq its n ∧ its.size ≤ sizeLine ∧ Vals xs its.toList
mutual
def RelD (K : PySem.W.Frag) (μ : Mu) (H : Hp) : D → V → Prop
  | .non, v => v = .non
  | .bl b, v => v = .bl b
  | .int i, v => v = .int i
  | .str s, v => v = .str s
  | .tup ds, v => ∃ a vs, v = .ref a ∧ SqT K H a vs ∧ RelDs K μ H ds vs
  | .lst ds, v => ∃ a vs, v = .ref a ∧ H a = some (.lst vs) ∧ μ.un a ∧ RelDs K μ H ds vs
  | .scr ds, v => ∃ a vs, v = .ref a ∧ ((Rd H a (.lst vs) ∧ μ.un a) ∨ KLst K a vs) ∧ RelDs K μ H ds vs
  | .ref n, v => ∃ a, v = .ref a ∧ μ n = some a
def RelDs (K : PySem.W.Frag) (μ : Mu) (H : Hp) : List D → List V → Prop
  | [], vs => vs = []
  | d :: ds, vs => ∃ v r, vs = v :: r ∧ RelD K μ H d v ∧ RelDs K μ H ds r
end
/-- fields -/
def RelF (K : PySem.W.Frag) (μ : Mu) (H : Hp) : List (Str × D) → List (Str × V) → Prop
  | [], vs => vs = []
  | (f, d) :: fs, vs => ∃ v r, vs = (f, v) :: r ∧ RelD K μ H d v ∧ RelF K μ H fs r
/-- a dict's entries -/
def RelK (C : Ct) (μ : Mu) (H : Hp) : List (D × D) → List DictEntry → Prop
  | [], es => es = []
  | (k, d) :: r, es => ∃ e q nk, es = e :: q ∧ keyD k = some nk ∧ nk.depth ≤ 8 ∧ e.hash = nk.hash C.w ∧ (∃ v, RelV v e.key ∧ RelD C.K μ H k v) ∧ (∃ v, RelV v e.val ∧ RelD C.K μ H d v) ∧ RelK C μ H r q
/-- a dict's pairs -/
def RelM (K : PySem.W.Frag) (μ : Mu) (H : Hp) : List (Key × D) → List (Key × V) → Prop
  | [], vs => vs = []
  | (k, d) :: fs, vs => ∃ v r, vs = (k, v) :: r ∧ RelD K μ H d v ∧ RelM K μ H fs r
def extOf (a : Addr) (o : Obj) : HO := .ext fun h => h.get? a = some o
def DictRel (C : Ct) (μ : Mu) (H : Hp) (kvs : List (D × D)) (ep : Nat) (a : Addr) : Prop :=
  ∃ (o : Obj) (es : Array DictEntry), H a = some (extOf a o) ∧ o.ExactDict ∧ o.data = .dict es ep ∧ (a == sysModules) = false ∧ kvs.length ≤ sizeLine ∧ (kvs.map fun p => keyD p.1).Nodup ∧ RelK C μ H kvs es.toList
def ObjRel (C : Ct) (μ : Mu) (H : Hp) : DO → Addr → Prop
  | .lst ds, a => ∃ vs, H a = some (.lst vs) ∧ RelDs C.K μ H ds vs
  | .ins c fs, a => ∃ dx vs, H a = some (.ins (C.cA c) dx vs) ∧ RelF C.K μ H fs vs
  | .dict kvs, a => ∃ vs, H a = some (.dK vs) ∧ RelM C.K μ H kvs vs
  | .mix kvs ep, a => DictRel C μ H kvs ep a
  | .exn c, a => ∃ oe, H a = some (extOf a oe) ∧ Zc (.ref (C.cA c)) none oe ∧ ∃ vs, oe.data = .fields vs
structure Rep (C : Ct) (μ : Mu) (S : HS) (H : Hp) : Prop where
  dom : ∀ n, (∃ a, μ n = some a) ↔ n < S.n
  inj : ∀ n m a, μ n = some a → μ m = some a → n = m
  obj : ∀ n a, μ n = some a → ∃ o, S.h n = some o ∧ ObjRel C μ H o a
  ban : ∀ a, μ.B a → (∃ u, H a = some u) ∧ ∀ n, μ n ≠ some a
/-- how the heap grows: the map is kept, unmapped objects are never touched -/
structure G (K : PySem.W.Frag) (μ : Mu) (H : Hp) (μ' : Mu) (H' : Hp) : Prop where
  mu : ∀ n a, μ n = some a → μ' n = some a
  fr : ∀ a o, H a = some o → (∀ n, μ n ≠ some a) → H' a = some o ∧ ∀ n, μ' n ≠ some a
  tp : ∀ a vs, SqT K H a vs → SqT K H' a vs
  b : μ'.B = μ.B
section
variable {K : PySem.W.Frag} {C : Ct} {μ μ' μ1 μ2 : Mu} {H H' H1 H2 : Hp} {S S' : HS}
theorem G.refl : G K μ H μ H := ⟨fun _ _ h => h, fun _ _ h n => ⟨h, n⟩, fun _ _ h => h, rfl⟩
theorem G.trans (a : G K μ H μ1 H1) (b : G K μ1 H1 μ2 H2) : G K μ H μ2 H2 :=
  ⟨fun n x h => b.mu n x (a.mu n x h), fun x o h n => let ⟨p, q⟩ := a.fr x o h n; b.fr x o p q, fun x vs h => b.tp x vs (a.tp x vs h), b.b.trans a.b⟩
theorem G.rd (g : G K μ H μ' H') {a : Addr} {u : HO} (h : Rd H a u) (n : μ.un a) : Rd H' a u ∧ μ'.un a := by
  rcases h with h | ⟨o, h⟩
  · exact ⟨.inl (g.fr a _ h n.1).1, (g.fr a _ h n.1).2, by rw [g.b]; exact n.2⟩
  · exact ⟨.inr ⟨o, (g.fr a _ h n.1).1⟩, (g.fr a _ h n.1).2, by rw [g.b]; exact n.2⟩
mutual
theorem RelD.mono (g : G K μ H μ' H') : ∀ (d : D) (v : V), RelD K μ H d v → RelD K μ' H' d v
  | .non, v, h => h
  | .bl b, v, h => h
  | .int i, v, h => h
  | .str s, v, h => h
  | .tup ds, v, ⟨a, vs, e, t, r⟩ => ⟨a, vs, e, g.tp _ _ t, RelDs.mono g ds vs r⟩
  | .lst ds, v, ⟨a, vs, e, t, n, r⟩ => ⟨a, vs, e, (g.fr _ _ t n.1).1, ⟨(g.fr _ _ t n.1).2, by rw [g.b]; exact n.2⟩, RelDs.mono g ds vs r⟩
  | .scr ds, v, ⟨a, vs, e, t, r⟩ => ⟨a, vs, e, t.imp (fun t => g.rd t.1 t.2) fun t => t, RelDs.mono g ds vs r⟩
  | .ref n, v, ⟨a, e, m⟩ => ⟨a, e, g.mu n a m⟩
theorem RelDs.mono (g : G K μ H μ' H') : ∀ (ds : List D) (vs : List V), RelDs K μ H ds vs → RelDs K μ' H' ds vs
  | [], vs, h => h
  | d :: ds, vs, ⟨v, r, e, h1, h2⟩ => ⟨v, r, e, RelD.mono g d v h1, RelDs.mono g ds r h2⟩
end
/-- a list under way is banned from the values -/
def Mu.ban (μ : Mu) (p : Addr) : Mu := ⟨μ.f, fun a => μ.B a ∨ a = p⟩
mutual
theorem RelD.ban {p : Addr} (hp : H p = none) : ∀ (d : D) (v : V), RelD K μ H d v → RelD K (μ.ban p) H d v
  | .non, v, h => h
  | .bl b, v, h => h
  | .int i, v, h => h
  | .str s, v, h => h
  | .tup ds, v, ⟨a, vs, e, t, r⟩ => ⟨a, vs, e, t, RelDs.ban hp ds vs r⟩
  | .lst ds, v, ⟨a, vs, e, t, n, r⟩ => ⟨a, vs, e, t, ⟨n.1, fun q => q.elim n.2 fun e => by
      subst e
      rw [hp] at t; cases t⟩, RelDs.ban hp ds vs r⟩
  | .scr ds, v, ⟨a, vs, e, t, r⟩ => ⟨a, vs, e, t.imp (fun t => ⟨t.1, t.2.1, fun q => q.elim t.2.2 fun e => by
      subst e
      rcases t.1 with t | ⟨o, t⟩ <;> (rw [hp] at t; cases t)⟩) fun t => t, RelDs.ban hp ds vs r⟩
  | .ref n, v, h => h
theorem RelDs.ban {p : Addr} (hp : H p = none) : ∀ (ds : List D) (vs : List V), RelDs K μ H ds vs → RelDs K (μ.ban p) H ds vs
  | [], vs, h => h
  | d :: ds, vs, ⟨v, r, e, h1, h2⟩ => ⟨v, r, e, RelD.ban hp d v h1, RelDs.ban hp ds r h2⟩
end
/-- the map itself, or with one list under way banned -/
def Bn (μ : Mu) (H : Hp) (μb : Mu) : Prop := μb = μ ∨ ∃ p, H p = none ∧ μb = μ.ban p
theorem RelDs.bn {μb : Mu} (b : Bn μ H μb) {ds : List D} {vs : List V} (r : RelDs K μ H ds vs) : RelDs K μb H ds vs := by
  rcases b with rfl | ⟨p, hp, rfl⟩
  · exact r
  · exact RelDs.ban hp _ _ r
theorem Mu.un.bn {μb : Mu} (b : Bn μ H μb) {a : Addr} {u : HO} (h : Rd H a u) (n : μ.un a) : μb.un a := by
  rcases b with rfl | ⟨p, hp, rfl⟩
  · exact n
  · refine ⟨n.1, fun q => q.elim n.2 fun e => ?_⟩
    subst e
    rcases h with t | ⟨o, t⟩ <;> (rw [hp] at t; cases t)
theorem Bn.f {μb : Mu} (b : Bn μ H μb) (n : Nat) : μb n = μ n := by
  rcases b with rfl | ⟨p, hp, rfl⟩ <;> rfl
theorem RelF.mono (g : G K μ H μ' H') : ∀ (fs : List (Str × D)) (vs : List (Str × V)), RelF K μ H fs vs → RelF K μ' H' fs vs
  | [], vs, h => h
  | (f, d) :: fs, vs, ⟨v, r, e, h1, h2⟩ => ⟨v, r, e, RelD.mono g d v h1, RelF.mono g fs r h2⟩
theorem RelM.mono (g : G K μ H μ' H') : ∀ (fs : List (Key × D)) (vs : List (Key × V)), RelM K μ H fs vs → RelM K μ' H' fs vs
  | [], vs, h => h
  | (f, d) :: fs, vs, ⟨v, r, e, h1, h2⟩ => ⟨v, r, e, RelD.mono g d v h1, RelM.mono g fs r h2⟩
theorem RelK.mono (g : G C.K μ H μ' H') : ∀ (kvs : List (D × D)) (es : List DictEntry), RelK C μ H kvs es → RelK C μ' H' kvs es
  | [], es, h => h
  | (k, d) :: r, es, ⟨e, q, nk, h0, h1, h2, h3, ⟨v, h4, h5⟩, ⟨u, h6, h7⟩, h8⟩ => ⟨e, q, nk, h0, h1, h2, h3, ⟨v, h4, RelD.mono g k v h5⟩, ⟨u, h6, RelD.mono g d u h7⟩, RelK.mono g r q h8⟩
theorem ObjRel.mono (g : G C.K μ H μ' H') {o : DO} {a : Addr} (e : H' a = H a) (h : ObjRel C μ H o a) : ObjRel C μ' H' o a := by
  cases o with
  | lst ds => obtain ⟨vs, h1, h2⟩ := h; exact ⟨vs, e.trans h1, RelDs.mono g _ _ h2⟩
  | ins c fs => obtain ⟨dx, vs, h1, h2⟩ := h; exact ⟨dx, vs, e.trans h1, RelF.mono g _ _ h2⟩
  | dict kvs => obtain ⟨vs, h1, h2⟩ := h; exact ⟨vs, e.trans h1, RelM.mono g _ _ h2⟩
  | mix kvs ep => obtain ⟨o, es, h1, h2, h3, h4, h5, h6, h7⟩ := h; exact ⟨o, es, e.trans h1, h2, h3, h4, h5, h6, RelK.mono g _ _ h7⟩
  | exn c => obtain ⟨o, h1, h2⟩ := h; exact ⟨o, e.trans h1, h2⟩
theorem ObjRel.some {o : DO} {a : Addr} (h : ObjRel C μ H o a) : ∃ u, H a = some u ∧ (∀ vs, u ≠ .tup vs) ∧ ∀ ob w, u ≠ .frz ob w := by
  cases o with
  | lst ds => obtain ⟨vs, h1, h2⟩ := h; exact ⟨_, h1, fun _ z => HO.noConfusion z, fun _ _ z => HO.noConfusion z⟩
  | ins c fs => obtain ⟨dx, vs, h1, h2⟩ := h; exact ⟨_, h1, fun _ z => HO.noConfusion z, fun _ _ z => HO.noConfusion z⟩
  | dict kvs => obtain ⟨vs, h1, h2⟩ := h; exact ⟨_, h1, fun _ z => HO.noConfusion z, fun _ _ z => HO.noConfusion z⟩
  | mix kvs ep => obtain ⟨o, es, h1, h2⟩ := h; exact ⟨_, h1, fun _ z => HO.noConfusion z, fun _ _ z => HO.noConfusion z⟩
  | exn c => obtain ⟨o, h1, h2⟩ := h; exact ⟨_, h1, fun _ z => HO.noConfusion z, fun _ _ z => HO.noConfusion z⟩
theorem Rep.nt (R : Rep C μ S H) {n : Nat} {a : Addr} (h : μ n = some a) (vs : List V) : ¬ Rd H a (.tup vs) := by
  obtain ⟨o, _, r⟩ := R.obj n a h
  obtain ⟨u, hu, t, f⟩ := r.some
  rintro (z | ⟨ob, z⟩)
  · rw [hu] at z; exact t vs (Option.some.inj z)
  · rw [hu] at z; exact f ob _ (Option.some.inj z)
theorem Rep.ne_none (R : Rep C μ S H) {n : Nat} {a p : Addr} (h : μ n = some a) (hp : H p = none) : a ≠ p := by
  obtain ⟨o, _, r⟩ := R.obj n a h
  obtain ⟨u, hu, _⟩ := r.some
  intro e; rw [← e, hu] at hp; cases hp
theorem Rep.free (R : Rep C μ S H) {p : Addr} (hp : H p = none) : μ.un p := ⟨fun n e => R.ne_none e hp rfl, fun b => by
  obtain ⟨⟨u, e⟩, _⟩ := R.ban p b
  rw [hp] at e; cases e⟩
theorem upd_none {p : Addr} {u : HO} (hp : H p = none) {a : Addr} {o : HO} (h : H a = some o) : upd H p u a = some o := by
  rw [upd_ne (ne_of_none h hp)]; exact h
theorem SqT.upd_none {p : Addr} {u : HO} (hp : H p = none) {a : Addr} {vs : List V} (h : SqT K H a vs) : SqT K (upd H p u) a vs := by
  rcases h with (h | ⟨o, h⟩) | h
  · exact .inl (.inl (DL.upd_none hp h))
  · exact .inl (.inr ⟨o, DL.upd_none hp h⟩)
  · exact .inr h
theorem G.new (R : Rep C μ S H) {p : Addr} {u : HO} (hp : H p = none) : G C.K μ H μ (upd H p u) :=
  ⟨fun _ _ h => h, fun _ _ h n => ⟨DL.upd_none hp h, n⟩, fun _ _ h => SqT.upd_none hp h, rfl⟩
/-- a new object that is not mapped -/
theorem Rep.new (R : Rep C μ S H) {p : Addr} {u : HO} (hp : H p = none) : Rep C μ S (upd H p u) :=
  ⟨R.dom, R.inj, fun n a h => let ⟨o, e, r⟩ := R.obj n a h; ⟨o, e, r.mono (G.new R hp) (upd_ne (R.ne_none h hp))⟩, fun a h => let ⟨⟨x, e⟩, n⟩ := R.ban a h; ⟨⟨x, DL.upd_none hp e⟩, n⟩⟩
def muNew (μ : Mu) (n : Nat) (p : Addr) : Mu := ⟨fun m => if m = n then some p else μ m, μ.B⟩
theorem Rep.out (R : Rep C μ S H) {n : Nat} {a : Addr} (h : μ n = some a) : n < S.n := (R.dom n).mp ⟨a, h⟩
theorem muNew_old (R : Rep C μ S H) {p : Addr} {n : Nat} {a : Addr} (h : μ n = some a) : muNew μ S.n p n = some a := by
  show (if n = S.n then some p else μ n) = some a; rw [if_neg (Nat.ne_of_lt (R.out h))]; exact h
theorem muNew_self {p : Addr} {n : Nat} : muNew μ n p n = some p := if_pos rfl
theorem G.newM (R : Rep C μ S H) {p : Addr} {u : HO} (hp : H p = none) : G C.K μ H (muNew μ S.n p) (upd H p u) :=
  ⟨fun _ _ h => muNew_old R h, fun a o h n => ⟨DL.upd_none hp h, fun m => by
    show (if m = S.n then some p else μ m) ≠ some a
    split
    · intro e; exact ne_of_none h hp (Option.some.inj e).symm
    · exact n m⟩, fun _ _ h => SqT.upd_none hp h, rfl⟩
/-- a new object, mapped to the next number -/
theorem Rep.newM (R : Rep C μ S H) {p : Addr} {u : HO} {o : DO} (hp : H p = none) (r : ObjRel C (muNew μ S.n p) (upd H p u) o p) : Rep C (muNew μ S.n p) (S.new o) (upd H p u) := by
  have un : ∀ n, muNew μ S.n p n = (if n = S.n then some p else μ n) := fun _ => rfl
  refine ⟨fun n => ?_, fun n m a h1 h2 => ?_, fun n a h => ?_, fun a h => ?_⟩
  · show _ ↔ n < S.n + 1
    constructor
    · rintro ⟨a, h⟩
      rw [un] at h; split at h
      · omega
      · have := R.out h; omega
    · intro h
      by_cases e : n = S.n
      · exact ⟨p, by rw [e]; exact muNew_self⟩
      · obtain ⟨a, q⟩ := (R.dom n).mpr (by omega)
        exact ⟨a, muNew_old R q⟩
  · rw [un] at h1 h2
    split at h1 <;> split at h2
    · omega
    · rename_i h; exact absurd (Option.some.inj h1).symm (fun e => R.ne_none h2 hp e)
    · exact absurd (Option.some.inj h2).symm (fun e => R.ne_none h1 hp e)
    · exact R.inj n m a h1 h2
  · rw [un] at h; split at h
    · rename_i e; subst e
      cases h
      exact ⟨o, if_pos rfl, r⟩
    · rename_i e
      obtain ⟨o', e', r'⟩ := R.obj n a h
      exact ⟨o', (if_neg e).trans e', r'.mono (G.newM R hp) (upd_ne (R.ne_none h hp))⟩
  · obtain ⟨⟨x, e⟩, n⟩ := R.ban a h
    refine ⟨⟨x, DL.upd_none hp e⟩, fun m => ?_⟩
    rw [un]; split
    · intro e'; exact ne_of_none e hp (Option.some.inj e').symm
    · exact n m
theorem G.put (R : Rep C μ S H) {n : Nat} {a : Addr} {u : HO} (hn : μ n = some a) : G C.K μ H μ (upd H a u) :=
  ⟨fun _ _ h => h, fun b o h m => ⟨by rw [upd_ne (fun e => m n (by rw [e]; exact hn))]; exact h, m⟩, fun b vs h => by
    rcases h with h | h
    · have hb : b ≠ a := fun e => R.nt hn vs (e ▸ h)
      refine .inl ?_
      rcases h with h | ⟨o, h⟩
      · exact .inl (by rw [upd_ne hb]; exact h)
      · exact .inr ⟨o, by rw [upd_ne hb]; exact h⟩
    · exact .inr h, rfl⟩
/-- a mapped object changed -/
theorem Rep.put (R : Rep C μ S H) {n : Nat} {a : Addr} {u : HO} {o : DO} (hn : μ n = some a) (r : ObjRel C μ (upd H a u) o a) : Rep C μ (S.put n o) (upd H a u) :=
  ⟨R.dom, R.inj, fun m b h => by
    by_cases e : m = n
    · subst e
      rw [hn] at h; cases h
      exact ⟨o, if_pos rfl, r⟩
    · obtain ⟨o', e', r'⟩ := R.obj m b h
      exact ⟨o', (if_neg e).trans e', r'.mono (G.put R hn) (upd_ne (fun q => e (R.inj m n a (q ▸ h) hn)))⟩, fun b h => by
    obtain ⟨⟨x, e⟩, k⟩ := R.ban b h
    exact ⟨⟨x, by rw [upd_ne (fun q => k n (by rw [q]; exact hn))]; exact e⟩, k⟩⟩

/-! ### the slots -/
abbrev Sl := List (Option D)
structure RelS (K : PySem.W.Frag) (μ : Mu) (H : Hp) (sd : Sl) (σ : L2.St) : Prop where
  len : sd.length = σ.length
  at_ : ∀ (i : Nat) (d : D), sd[i]? = some (some d) → ∃ v, σ[i]? = some (some v) ∧ RelD K μ H d v
theorem RelS.mono (g : G K μ H μ' H') {sd : Sl} {σ : L2.St} (r : RelS K μ H sd σ) : RelS K μ' H' sd σ :=
  ⟨r.len, fun i d h => let ⟨v, e, q⟩ := r.at_ i d h; ⟨v, e, RelD.mono g d v q⟩⟩
theorem RelS.set {sd : Sl} {σ : L2.St} (r : RelS K μ H sd σ) {d : D} {v : V} (h : RelD K μ H d v) (i : Nat) : RelS K μ H (sd.set i (some d)) (σ.set i (some v)) := by
  refine ⟨by simp [r.len], fun j e q => ?_⟩
  by_cases hj : j = i
  · subst hj
    have hl : j < sd.length := by
      have := (List.getElem?_eq_some_iff.mp q).1
      simpa using this
    rw [List.getElem?_set_self hl] at q
    cases q
    exact ⟨v, List.getElem?_set_self (r.len ▸ hl), h⟩
  · rw [List.getElem?_set_ne (Ne.symm hj)] at q
    obtain ⟨u, h1, h2⟩ := r.at_ j e q
    exact ⟨u, by rw [List.getElem?_set_ne (Ne.symm hj)]; exact h1, h2⟩
theorem RelS.del {sd : Sl} {σ : L2.St} (r : RelS K μ H sd σ) (i : Nat) : RelS K μ H (sd.set i none) (σ.set i none) := by
  refine ⟨by simp [r.len], fun j e q => ?_⟩
  by_cases hj : j = i
  · subst hj
    have hl : j < sd.length := by
      have := (List.getElem?_eq_some_iff.mp q).1
      simpa using this
    rw [List.getElem?_set_self hl] at q
    cases q
  · rw [List.getElem?_set_ne (Ne.symm hj)] at q
    obtain ⟨u, h1, h2⟩ := r.at_ j e q
    exact ⟨u, by rw [List.getElem?_set_ne (Ne.symm hj)]; exact h1, h2⟩
theorem RelS.start {N : List Str} {ds : List D} {vs : List V} (h : RelDs K μ H ds vs) : RelS K μ H (ds.map some ++ List.replicate (N.length - ds.length) none) (L2.start N vs) := by
  have hl : ∀ (ds : List D) (vs : List V), RelDs K μ H ds vs → ds.length = vs.length ∧ ∀ (i : Nat) (d : D), (ds.map some)[i]? = some (some d) → ∃ v, (vs.map some)[i]? = some (some v) ∧ RelD K μ H d v := by
    intro ds
    induction ds with
    | nil => intro vs h; have h : vs = [] := h; subst h; exact ⟨rfl, fun i d q => by simp at q⟩
    | cons d ds ih =>
      rintro vs ⟨v, r, rfl, h1, h2⟩
      obtain ⟨l, a⟩ := ih r h2
      refine ⟨by simp [l], fun i e q => ?_⟩
      cases i with
      | zero => simp at q; subst q; exact ⟨v, rfl, h1⟩
      | succ i => exact a i e (by simpa using q)
  obtain ⟨l, a⟩ := hl ds vs h
  refine ⟨by simp [L2.start, l], fun i d q => ?_⟩
  by_cases hi : i < ds.length
  · rw [List.getElem?_append_left (by simpa using hi)] at q
    obtain ⟨v, e, r⟩ := a i d q
    exact ⟨v, by unfold L2.start; rw [List.getElem?_append_left (by simpa [← l] using hi)]; exact e, r⟩
  · rw [List.getElem?_append_right (by simpa using hi), List.getElem?_replicate] at q
    split at q <;> simp at q
theorem RelDs.len : ∀ {ds : List D} {vs : List V}, RelDs K μ H ds vs → ds.length = vs.length
  | [], vs, h => by have h : vs = [] := h; subst h; rfl
  | d :: ds, vs, ⟨v, r, e, h1, h2⟩ => by subst e; simp [RelDs.len h2]
theorem RelDs.get : ∀ {ds : List D} {vs : List V} {i : Nat} {d : D}, RelDs K μ H ds vs → ds[i]? = some d → ∃ v, vs[i]? = some v ∧ RelD K μ H d v
  | [], vs, i, d, h, e => by simp at e
  | d :: ds, vs, 0, x, ⟨v, r, e, h1, h2⟩, q => by subst e; simp at q; subst q; exact ⟨v, rfl, h1⟩
  | d :: ds, vs, i + 1, x, ⟨v, r, e, h1, h2⟩, q => by
    subst e
    have q' : ds[i]? = some x := by simpa using q
    obtain ⟨u, e1, e2⟩ := RelDs.get h2 q'
    exact ⟨u, by simpa using e1, e2⟩
theorem RelDs.append : ∀ {ds es : List D} {vs us : List V}, RelDs K μ H ds vs → RelDs K μ H es us → RelDs K μ H (ds ++ es) (vs ++ us)
  | [], es, vs, us, h, h' => by have h : vs = [] := h; subst h; exact h'
  | d :: ds, es, vs, us, ⟨v, r, e, h1, h2⟩, h' => by subst e; exact ⟨v, r ++ us, rfl, h1, RelDs.append h2 h'⟩
theorem RelDs.one {d : D} {v : V} (h : RelD K μ H d v) : RelDs K μ H [d] [v] := ⟨v, [], rfl, h, rfl⟩
theorem RelDs.take : ∀ (n : Nat) {ds : List D} {vs : List V}, RelDs K μ H ds vs → RelDs K μ H (ds.take n) (vs.take n)
  | 0, ds, vs, h => by simp; rfl
  | n + 1, [], vs, h => by have h : vs = [] := h; subst h; rfl
  | n + 1, d :: ds, vs, ⟨v, r, e, h1, h2⟩ => by subst e; exact ⟨v, r.take n, rfl, h1, RelDs.take n h2⟩
theorem RelDs.drop : ∀ (n : Nat) {ds : List D} {vs : List V}, RelDs K μ H ds vs → RelDs K μ H (ds.drop n) (vs.drop n)
  | 0, ds, vs, h => h
  | n + 1, [], vs, h => by have h : vs = [] := h; subst h; rfl
  | n + 1, d :: ds, vs, ⟨v, r, e, h1, h2⟩ => by subst e; exact RelDs.drop n h2
theorem RelDs.set : ∀ (i : Nat) {ds : List D} {vs : List V} {d : D} {v : V}, RelDs K μ H ds vs → RelD K μ H d v → RelDs K μ H (ds.set i d) (vs.set i v)
  | i, [], vs, d, v, h, _ => by have h : vs = [] := h; subst h; rfl
  | 0, d :: ds, vs, x, y, ⟨v, r, e, h1, h2⟩, h => by subst e; exact ⟨y, r, rfl, h, h2⟩
  | i + 1, d :: ds, vs, x, y, ⟨v, r, e, h1, h2⟩, h => by subst e; exact ⟨v, r.set i y, rfl, h1, RelDs.set i h2 h⟩
theorem RelDs.erase : ∀ (i : Nat) {ds : List D} {vs : List V}, RelDs K μ H ds vs → RelDs K μ H (ds.eraseIdx i) (vs.eraseIdx i)
  | i, [], vs, h => by have h : vs = [] := h; subst h; simp; rfl
  | 0, d :: ds, vs, ⟨v, r, e, h1, h2⟩ => by subst e; exact h2
  | i + 1, d :: ds, vs, ⟨v, r, e, h1, h2⟩ => by subst e; exact ⟨v, r.eraseIdx i, rfl, h1, RelDs.erase i h2⟩
theorem RelDs.reverse {ds : List D} {vs : List V} (h : RelDs K μ H ds vs) : RelDs K μ H ds.reverse vs.reverse := by
  induction ds generalizing vs with
  | nil => have h : vs = [] := h; subst h; rfl
  | cons d ds ih =>
    obtain ⟨v, r, rfl, h1, h2⟩ := h
    rw [List.reverse_cons, List.reverse_cons]
    exact (ih h2).append (RelDs.one h1)
theorem RelDs.ints : ∀ (ns : List Int), RelDs K μ H (ns.map D.int) (ns.map V.int)
  | [] => rfl
  | n :: ns => ⟨_, _, rfl, rfl, RelDs.ints ns⟩
theorem RelF.lookup : ∀ {fs : List (Str × D)} {vs : List (Str × V)} {f : Str}, RelF K μ H fs vs → (fs.lookup f = none → vs.lookup f = none) ∧ ∀ d, fs.lookup f = some d → ∃ v, vs.lookup f = some v ∧ RelD K μ H d v
  | [], vs, f, h => by have h : vs = [] := h; subst h; exact ⟨fun _ => rfl, fun d q => by simp at q⟩
  | (g, e) :: fs, vs, f, ⟨v, r, ev, h1, h2⟩ => by
    subst ev
    rw [List.lookup_cons, List.lookup_cons]
    split
    · exact ⟨fun q => (nomatch q), fun d q => by cases q; exact ⟨v, rfl, h1⟩⟩
    · exact RelF.lookup h2
def putD (f : Str) (v : D) : List (Str × D) → List (Str × D)
  | [] => [(f, v)]
  | (g, x) :: r => if g = f then (g, v) :: r else (g, x) :: putD f v r
theorem RelF.put : ∀ {fs : List (Str × D)} {vs : List (Str × V)} {f : Str} {d : D} {v : V}, RelF K μ H fs vs → RelD K μ H d v → RelF K μ H (putD f d fs) (putF f v vs)
  | [], vs, f, d, v, h, r => by have h : vs = [] := h; subst h; exact ⟨v, [], rfl, r, rfl⟩
  | (g, e) :: fs, vs, f, d, v, ⟨u, q, ev, h1, h2⟩, r => by
    subst ev
    unfold putD putF
    split
    · exact ⟨v, q, rfl, r, h2⟩
    · exact ⟨u, putF f v q, rfl, h1, RelF.put h2 r⟩
theorem RelF.len : ∀ {fs : List (Str × D)} {vs : List (Str × V)}, RelF K μ H fs vs → fs.length = vs.length
  | [], vs, h => by have h : vs = [] := h; subst h; rfl
  | (g, e) :: fs, vs, ⟨v, r, ev, h1, h2⟩ => by subst ev; simp [RelF.len h2]
end
end DL
end
section
/-! DL2: expressions lifted: a Lean function of slots and heap says what an expression gives. -/
namespace DL
open PySem PySem.Spec PyProof.Rows L2

section
variable {α β γ : Type}
def Good (C : Ct) (W : WX) (rel : Mu → Hp → α → β → Prop) (μ : Mu) (σ : L2.St) (H : Hp) (Q : β → Hp → Prop) : Res α → Prop
  | .ok a S => ∀ μ' H' b, G C.K μ H μ' H' → Rep C μ' S H' → rel μ' H' a b → Q b H'
  | .exc c S => ∀ μ' H', G C.K μ H μ' H' → Rep C μ' S H' → W (.ref (C.cA c)) none σ H'
  | .bad => False
def Lift (C : Ct) (W : WX) (rel : Mu → Hp → α → β → Prop) (f : Sl → HS → Res α) : L2.St → Hp → (β → Hp → Prop) → Prop := fun σ H Q =>
  ∃ μ sd S, Rep C μ S H ∧ RelS C.K μ H sd σ ∧ Good C W rel μ σ H Q (f sd S)
def Stable (K : PySem.W.Frag) (P : Mu → Hp → Prop) : Prop := ∀ μ H μ' H', G K μ H μ' H' → P μ H → P μ' H'
theorem Good.mono {C : Ct} {W : WX} {rel : Mu → Hp → α → β → Prop} {μ μ' : Mu} {σ : L2.St} {H H' : Hp} {Q : β → Hp → Prop} {r : Res α} (g : G C.K μ H μ' H') (h : Good C W rel μ σ H Q r) : Good C W rel μ' σ H' Q r := by
  cases r with
  | ok a S => exact fun m k b g' R r => h m k b (g.trans g') R r
  | exc c S => exact fun m k g' R => h m k (g.trans g') R
  | bad => exact h
theorem Good.imp {C : Ct} {W : WX} {rel : Mu → Hp → α → β → Prop} {μ : Mu} {σ : L2.St} {H : Hp} {Q Q' : β → Hp → Prop} {r : Res α} (h : Good C W rel μ σ H Q r) (hq : ∀ b H, Q b H → Q' b H) : Good C W rel μ σ H Q' r := by
  cases r with
  | ok a S => exact fun m k b g' R r => hq _ _ (h m k b g' R r)
  | exc c S => exact h
  | bad => exact h
theorem Good.ok {C : Ct} {W : WX} {rel : Mu → Hp → α → β → Prop} {μ μ' : Mu} {σ : L2.St} {H H' : Hp} {Q : β → Hp → Prop} {a : α} {S : HS} {b : β} (h : Good C W rel μ σ H Q (.ok a S)) (g : G C.K μ H μ' H') (R : Rep C μ' S H') (r : rel μ' H' a b) : Q b H' := h μ' H' b g R r
/-- one part evaluated, the rest to come -/
theorem Lift.step {C : Ct} {W : WX} {rel : Mu → Hp → α → β → Prop} {δ : Type} {rel' : Mu → Hp → γ → δ → Prop} {f : Sl → HS → Res α} {k : α → HS → Res γ} {μ : Mu} {sd : Sl} {S : HS} {σ : L2.St} {H : Hp} {Q : δ → Hp → Prop} {Q1 : β → Hp → Prop}
    (P : Mu → Hp → Prop) (hP : Stable C.K P) (R : Rep C μ S H) (rs : RelS C.K μ H sd σ) (p : P μ H) (h : Good C W rel' μ σ H Q ((f sd S).bind k))
    (hk : ∀ b H1 μ1 S1 a, G C.K μ H μ1 H1 → Rep C μ1 S1 H1 → RelS C.K μ1 H1 sd σ → P μ1 H1 → rel μ1 H1 a b → Good C W rel' μ1 σ H1 Q (k a S1) → Q1 b H1) : Lift C W rel f σ H Q1 := by
  refine ⟨μ, sd, S, R, rs, ?_⟩
  cases e : f sd S with
  | ok a S1 =>
    rw [e] at h
    exact fun μ1 H1 b g R1 r => hk b H1 μ1 S1 a g R1 (rs.mono g) (hP _ _ _ _ g p) r (Good.mono g h)
  | exc c S1 => rw [e] at h; exact h
  | bad => rw [e] at h; exact h
end
theorem Stable.true {K : PySem.W.Frag} : Stable K fun _ _ => True := fun _ _ _ _ _ h => h
theorem Stable.rel {K : PySem.W.Frag} {d : D} {v : V} : Stable K fun μ H => RelD K μ H d v := fun _ _ _ _ g h => RelD.mono g d v h
theorem Stable.rels {K : PySem.W.Frag} {d : List D} {v : List V} : Stable K fun μ H => RelDs K μ H d v := fun _ _ _ _ g h => RelDs.mono g d v h
theorem Stable.and {K : PySem.W.Frag} {P Q : Mu → Hp → Prop} (a : Stable K P) (b : Stable K Q) : Stable K fun μ H => P μ H ∧ Q μ H := fun _ _ _ _ g h => ⟨a _ _ _ _ g h.1, b _ _ _ _ g h.2⟩
abbrev rB : Mu → Hp → Bool → Bool → Prop := fun _ _ a b => a = b
abbrev SE := Sl → HS → Res D
abbrev ST := Sl → HS → Res Bool
abbrev SA := Sl → HS → Res (List D)
section
variable (C : Ct) (X : Cx) (W : WX)
def LE (e : Expr) (f : SE) : Prop := PE X e (Lift C W (RelD C.K) f)
def LT (e : Expr) (f : ST) : Prop := PT X e (Lift C W rB f)
def LW (e : Expr) (f : ST) : Prop := PW X e (Lift C W rB f)
def LA (es : List Expr) (f : SA) : Prop := PA X es (Lift C W (RelDs C.K) f)
/-- a context over the text -/
structure Ok : Prop where
  K : X.K = C.K
  w : X.w = C.w
  tk : Takes X W
  calm : X.calm = true
end
theorem PE.imp {X : Cx} {e : Expr} {t t' : TE} (h : PE X e t) (hi : ∀ σ H Q, t' σ H Q → t σ H Q) : PE X e t' := ⟨fun pins s σ H Q I q => h.run pins s σ H Q I (hi _ _ _ q)⟩
theorem PT.imp {X : Cx} {e : Expr} {t t' : TT} (h : PT X e t) (hi : ∀ σ H Q, t' σ H Q → t σ H Q) : PT X e t' := ⟨fun pins s σ H Q I q => h.run pins s σ H Q I (hi _ _ _ q)⟩
theorem PW.imp {X : Cx} {e : Expr} {t t' : TT} (h : PW X e t) (hi : ∀ σ H Q, t' σ H Q → t σ H Q) : PW X e t' := ⟨fun w pins s σ H Q I q => h.run w pins s σ H Q I (hi _ _ _ q)⟩
theorem PA.imp {X : Cx} {e : List Expr} {t t' : TA} (h : PA X e t) (hi : ∀ σ H Q, t' σ H Q → t σ H Q) : PA X e t' := ⟨fun p pins s σ H Q I q => h.run p pins s σ H Q I (hi _ _ _ q)⟩
theorem PS.imp {X : Cx} {e : Stmt} {t t' : TS} (h : PS X e t) (hi : ∀ D σ H, t' D σ H → t D σ H) : PS X e t' := ⟨fun pins s σ H D I q => h.run pins s σ H D I (hi _ _ _ q)⟩
theorem PSs.imp {X : Cx} {e : List Stmt} {t t' : TS} (h : PSs X e t) (hi : ∀ D σ H, t' D σ H → t D σ H) : PSs X e t' := ⟨fun pins s σ H D I q => h.run pins s σ H D I (hi _ _ _ q)⟩

/-! ### what lists hold -/
def getL (s : HS) : D → Option (List D)
  | .lst ds => some ds
  | .scr ds => some ds
  | .ref n => match s.h n with
    | some (.lst ds) => some ds
    | _ => none
  | _ => none
/-- .. but the script -/
def getR (s : HS) : D → Option (List D)
  | .lst ds => some ds
  | .ref n => match s.h n with
    | some (.lst ds) => some ds
    | _ => none
  | _ => none
def mkL (b : Bool) (ds : List D) (s : HS) : Res D := if ds.length ≤ sizeLine then (if b = true then .ok (.ref s.n) (s.new (.lst ds)) else .ok (.lst ds) s) else .bad
section
variable {C : Ct} {μ : Mu} {S : HS} {H : Hp}
theorem RelD.listR (R : Rep C μ S H) {d : D} {v : V} {ds : List D} (r : RelD C.K μ H d v) (e : getR S d = some ds) : ∃ a vs, v = .ref a ∧ H a = some (.lst vs) ∧ RelDs C.K μ H ds vs := by
  cases d with
  | lst ds' => cases e; obtain ⟨a, vs, h1, h2, _, h3⟩ := r; exact ⟨a, vs, h1, h2, h3⟩
  | ref n =>
    obtain ⟨a, h1, h2⟩ := r
    obtain ⟨o, e1, q⟩ := R.obj n a h2
    simp only [getR, e1] at e
    cases o with
    | lst ds' => cases e; obtain ⟨vs, h3, h4⟩ := q; exact ⟨a, vs, h1, h3, h4⟩
    | dict _ => cases e
    | mix _ _ => cases e
    | exn _ => cases e
    | ins _ _ => cases e
  | scr _ => cases e
  | non => cases e
  | bl _ => cases e
  | int _ => cases e
  | str _ => cases e
  | tup _ => cases e
theorem RelD.list (R : Rep C μ S H) {d : D} {v : V} {ds : List D} (r : RelD C.K μ H d v) (e : getL S d = some ds) : ∃ a vs, v = .ref a ∧ SqL C.K H a vs ∧ RelDs C.K μ H ds vs := by
  cases d with
  | lst ds' => cases e; obtain ⟨a, vs, h1, h2, _, h3⟩ := r; exact ⟨a, vs, h1, .of h2, h3⟩
  | scr ds' => cases e; obtain ⟨a, vs, h1, h2, h3⟩ := r; exact ⟨a, vs, h1, h2.imp (fun h => h.1) fun h => h, h3⟩
  | ref n =>
    obtain ⟨a, vs, h1, h2, h3⟩ := RelD.listR (d := .ref n) (ds := ds) R r e
    exact ⟨a, vs, h1, .of h2, h3⟩
  | non => cases e
  | bl _ => cases e
  | int _ => cases e
  | str _ => cases e
  | tup _ => cases e
/-- a new list: a value, or an object -/
theorem mkL_good {W : WX} {σ : L2.St} {Q : VK} {b : Bool} {ds : List D} {vs : List V} {p : Addr} (R : Rep C μ S H) (r : RelDs C.K μ H ds vs) (h : Good C W (RelD C.K) μ σ H Q (mkL b ds S)) (hp : H p = none) : Q (.ref p) (upd H p (.lst vs)) := by
  unfold mkL at h
  split at h
  · split at h
    · have g := G.newM (u := .lst vs) R hp
      exact h (muNew μ S.n p) _ _ g (R.newM hp ⟨vs, upd_same, RelDs.mono g _ _ r⟩) ⟨p, rfl, muNew_self⟩
    · have g := G.new (u := .lst vs) R hp
      exact h μ _ _ g (R.new hp) ⟨p, vs, rfl, upd_same, R.free hp, RelDs.mono g _ _ r⟩
  · exact h.elim
theorem mkL_size {W : WX} {σ : L2.St} {Q : VK} {b : Bool} {ds : List D} (h : Good C W (RelD C.K) μ σ H Q (mkL b ds S)) : ds.length ≤ sizeLine := by
  unfold mkL at h
  split at h
  · assumption
  · exact h.elim
def mkT (ds : List D) (s : HS) : Res D := if ds.length ≤ sizeLine then .ok (.tup ds) s else .bad
theorem mkT_size {W : WX} {σ : L2.St} {Q : VK} {ds : List D} (h : Good C W (RelD C.K) μ σ H Q (mkT ds S)) : ds.length ≤ sizeLine := by
  unfold mkT at h
  split at h
  · assumption
  · exact h.elim
theorem mkT_good {W : WX} {σ : L2.St} {Q : VK} {ds : List D} {vs : List V} {p : Addr} (R : Rep C μ S H) (r : RelDs C.K μ H ds vs) (h : Good C W (RelD C.K) μ σ H Q (mkT ds S)) (hp : H p = none) : Q (.ref p) (upd H p (.tup vs)) := by
  unfold mkT at h
  split at h
  · have g := G.new (u := .tup vs) R hp
    exact h μ _ _ g (R.new hp) ⟨p, vs, rfl, SqT.of upd_same, RelDs.mono g _ _ r⟩
  · exact h.elim
end

/-! ### simple expressions -/
def v_ (i : Nat) : SE := fun sd s => match sd[i]? with
  | some (some d) => .ok d s
  | _ => .bad
def c_ (d : D) : SE := fun _ s => .ok d s
def b2 (f g : SE) (op : D → D → HS → Res D) : SE := fun sd s => (f sd s).bind fun x s1 => (g sd s1).bind fun y s2 => op x y s2
def tb (f : SE) : ST := fun sd s => (f sd s).bind fun x s1 => match x with
  | .bl b => .ok b s1
  | _ => .bad
def b1 (f : SE) (op : D → HS → Res D) : SE := fun sd s => (f sd s).bind fun x s1 => op x s1
section
variable {C : Ct} {X : Cx} {W : WX} {a b e : Expr} {f g : SE} {pos : Pos}
theorem Lift.here {α β : Type} {rel : Mu → Hp → α → β → Prop} {μ : Mu} {sd : Sl} {S : HS} {σ : L2.St} {H : Hp} {Q : β → Hp → Prop} {f : Sl → HS → Res α} (R : Rep C μ S H) (rs : RelS C.K μ H sd σ) (h : Good C W rel μ σ H Q (f sd S)) : Lift C W rel f σ H Q := ⟨μ, sd, S, R, rs, h⟩
theorem lv (i : Nat) {x : Str} (hN : X.N[i]? = some x := by rfl) (hv : Vis X.env.scope x := by first | exact Or.inl rfl | exact Or.inr (Or.inl rfl) | exact Or.inr (Or.inr rfl)) (hd : (x == ("__debug__" : Str)) = false := by decide)
    (hcd : (x == ("__classdict__" : Str)) = false := by decide) : LE C X W (.Name x pos) (v_ i) := PE.imp (pe_var hN hv hd hcd) fun σ H Q ⟨μ, sd, S, R, rs, h⟩ => by
  unfold v_ at h
  split at h
  · rename_i d e
    obtain ⟨v, e1, r⟩ := rs.at_ i d e
    exact ⟨v, e1, h.ok .refl R r⟩
  · exact h.elim
theorem lc {v : V} {d : D} (hr : ∀ μ H, RelD C.K μ H d v) (h : PE X e (tC v)) : LE C X W e (c_ d) := PE.imp h fun σ H Q ⟨μ, sd, S, R, rs, h⟩ => Good.ok h .refl R (hr μ H)
theorem li {i : Int} {j : Nat} : LE C X W (.Constant (.int i) j pos) (c_ (.int i)) := lc (fun _ _ => rfl) pe_int
theorem lb {i : Bool} {j : Nat} : LE C X W (.Constant (.bool i) j pos) (c_ (.bl i)) := lc (fun _ _ => rfl) pe_bl
theorem ln {j : Nat} : LE C X W (.Constant .none j pos) (c_ .non) := lc (fun _ _ => rfl) pe_non
theorem ls {x : Str} {j : Nat} : LE C X W (.Constant (.str x) j pos) (c_ (.str x)) := lc (fun _ _ => rfl) pe_str
/-- an operation on values: what its reading asks follows from the Lean function -/
def O2 (C : Ct) (W : WX) (r : R2) (op : D → D → HS → Res D) : Prop := ∀ (μ : Mu) (S : HS) (H : Hp) (x y : V) (dx dy : D) (σ : L2.St) (Q : VK), Rep C μ S H → RelD C.K μ H dx x → RelD C.K μ H dy y → Good C W (RelD C.K) μ σ H Q (op dx dy S) → r x y H Q
theorem lift2 {r : R2} {op : D → D → HS → Res D} (hv : O2 C W r op) {σ : L2.St} {H : Hp} {Q : VK} (h : Lift C W (RelD C.K) (b2 f g op) σ H Q) : tOp r (Lift C W (RelD C.K) f) (Lift C W (RelD C.K) g) σ H Q := by
  obtain ⟨μ, sd, S, R, rs, h⟩ := h
  refine Lift.step _ Stable.true R rs trivial h fun x H1 μ1 S1 dx g1 R1 rs1 _ rx h1 => ?_
  refine Lift.step _ (Stable.rel (d := dx) (v := x)) R1 rs1 rx h1 fun y H2 μ2 S2 dy g2 R2 rs2 rx2 ry h2 => ?_
  exact hv μ2 S2 H2 x y dx dy σ Q R2 rx2 ry h2
theorem lop {op : Operator} {r : R2} {o2 : D → D → HS → Res D} (ho : OpR X (binaryOp op) r) (hv : O2 C W r o2) (ha : LE C X W a f) (hb : LE C X W b g) : LE C X W (.BinOp a op b pos) (b2 f g o2) := PE.imp (pe_op ho ha hb) fun _ _ _ h => lift2 hv h
theorem Lift.k {α β γ δ : Type} {rel : Mu → Hp → α → β → Prop} {rel' : Mu → Hp → γ → δ → Prop} {f : Sl → HS → Res α} {k : Sl → α → HS → Res γ} {σ : L2.St} {H : Hp} {Q : δ → Hp → Prop} {Q1 : β → Hp → Prop} (h : Lift C W rel' (fun sd s => (f sd s).bind (k sd)) σ H Q)
    (hk : ∀ sd b H1 μ1 S1 a, Rep C μ1 S1 H1 → RelS C.K μ1 H1 sd σ → rel μ1 H1 a b → Good C W rel' μ1 σ H1 Q (k sd a S1) → Q1 b H1) : Lift C W rel f σ H Q1 := by
  obtain ⟨μ, sd, S, R, rs, h⟩ := h
  exact Lift.step _ Stable.true R rs trivial h fun x H1 μ1 S1 dx g1 R1 rs1 _ rx h1 => hk sd x H1 μ1 S1 dx R1 rs1 rx h1
theorem Lift.tb {F : SE} {σ : L2.St} {H : Hp} {Q : Bool → Hp → Prop} (h : Lift C W rB (tb F) σ H Q) : Lift C W (RelD C.K) F σ H (fun x H1 => ∃ k, x = .bl k ∧ Q k H1) := Lift.k h fun sd x H1 μ1 S1 dx R1 rs1 rx h1 => by
  cases dx <;> try exact h1.elim
  rename_i z
  cases (show x = .bl z from rx)
  exact ⟨z, rfl, h1.ok .refl R1 rfl⟩
/-- a comparison, as a value and as a test -/
structure LCmp (C : Ct) (X : Cx) (W : WX) (e : Expr) (f : SE) : Prop where
  v : LE C X W e f
  t : LT C X W e (tb f)
theorem lcmp {op : CmpOp} {r : R2} {o2 : D → D → HS → Res D} (ho : OpR X (compareOp op) r) (hv : O2 C W r o2) (ha : LE C X W a f) (hb : LE C X W b g) (hm : behindInMarks op b = false) : LCmp C X W (.Compare a [op] [b] pos) (b2 f g o2) :=
  ⟨PE.imp (pe_cmpR ho ha hb hm) fun _ _ _ h => lift2 hv h, PT.imp (pt_cmpR ho ha hb hm) fun _ _ _ h => lift2 hv h.tb⟩
theorem lix0 {r : R2} {o2 : D → D → HS → Res D} (ho : IxR X r) (hv : O2 C W r o2) (ha : LE C X W a f) (hb : LE C X W b g) (hs : PlainIx b := by exact fun _ _ => rfl) : LE C X W (.Subscript a b pos) (b2 f g o2) := PE.imp (pe_ix ho ha hb hs) fun _ _ _ h => lift2 hv h
end

/-! ### operators on values -/
def opI (C : Int → Int → Prop) [∀ i j, Decidable (C i j)] (g : Int → Int → D) : D → D → HS → Res D
  | .int i, .int j, s => if C i j then .ok (g i j) s else .bad
  | _, _, _ => .bad
instance : ∀ i j, Decidable (CMul i j) := fun i j => by unfold CMul; infer_instance
instance : ∀ i j, Decidable (CDivW i j) := fun i j => by unfold CDivW; infer_instance
instance : ∀ i j, Decidable (CPow i j) := fun i j => by unfold CPow; infer_instance
def oSub : D → D → HS → Res D := opI (fun _ _ => True) fun i j => .int (i - j)
def oMod : D → D → HS → Res D := opI (fun _ j => 0 < j) fun i j => .int (i % j)
def oFdiv : D → D → HS → Res D := opI CDivW fun i j => .int (i / j)
def oPow : D → D → HS → Res D := opI CPow fun i j => .int (i ^ j.toNat)
def oLt : D → D → HS → Res D := opI (fun _ _ => True) fun i j => .bl (decide (i < j))
def oLe : D → D → HS → Res D := opI (fun _ _ => True) fun i j => .bl (decide (i ≤ j))
def oGt : D → D → HS → Res D := opI (fun _ _ => True) fun i j => .bl (decide (j < i))
def oGe : D → D → HS → Res D := opI (fun _ _ => True) fun i j => .bl (decide (j ≤ i))
def oAdd (b : Bool) : D → D → HS → Res D
  | .int i, .int j, s => .ok (.int (i + j)) s
  | .str x, .str y, s => if x.length + y.length ≤ sizeLine then .ok (.str (x ++ y)) s else .bad
  | .tup xs, .tup ys, s => if xs ≠ [] ∧ ys ≠ [] then mkT (xs ++ ys) s else .bad
  | x, y, s => match getL s x, getL s y with
    | some xs, some ys => mkL b (xs ++ ys) s
    | _, _ => .bad
def oMul (b : Bool) : D → D → HS → Res D
  | .int i, .int j, s => if CMul i j then .ok (.int (i * j)) s else .bad
  | x, .int k, s => match getR s x with
    | some xs => if -(2 ^ 63) ≤ k ∧ k < 2 ^ 63 ∧ xs.length * k.toNat ≤ sizeLine then mkL b (List.replicate k.toNat xs).flatten s else .bad
    | _ => .bad
  | _, _, _ => .bad
section
variable {C : Ct} {X : Cx} {W : WX}
theorem o2I {P : Int → Int → Prop} [∀ i j, Decidable (P i j)] {gd : Int → Int → D} {gv : Int → Int → V} (hr : ∀ μ H i j, RelD C.K μ H (gd i j) (gv i j)) : O2 C W (rI P gv) (opI P gd) := by
  intro μ S H x y dx dy σ Q R rx ry h
  cases dx <;> cases dy <;> try exact h.elim
  rename_i i j
  cases (show x = .int i from rx); cases (show y = .int j from ry)
  have h' : Good C W (RelD C.K) μ σ H Q (if P i j then .ok (gd i j) S else .bad) := h
  by_cases hp : P i j
  · rw [if_pos hp] at h'
    exact ⟨i, j, rfl, rfl, hp, h'.ok .refl R (hr _ _ _ _)⟩
  · rw [if_neg hp] at h'
    exact h'.elim
theorem OpR.t {f : Value → Value → Sem Value} {g : Int → Int → V} (h : OpR X f (rI0 g)) : OpR X f (rI (fun _ _ => True) g) := by
  intro pins s σ H x y v u Q I rx ry q
  obtain ⟨i, j, e1, e2, _, q⟩ := q
  exact h pins s σ H x y v u Q I rx ry ⟨i, j, e1, e2, q⟩
variable {a b : Expr} {f g : SE} {pos : Pos}
theorem lsub (ha : LE C X W a f) (hb : LE C X W b g) : LE C X W (.BinOp a .Sub b pos) (b2 f g oSub) := lop (OpR.t op_sub) (o2I fun _ _ _ _ => rfl) ha hb
theorem lmod (ha : LE C X W a f) (hb : LE C X W b g) : LE C X W (.BinOp a .Mod b pos) (b2 f g oMod) := lop op_mod (o2I fun _ _ _ _ => rfl) ha hb
theorem lfdiv (ha : LE C X W a f) (hb : LE C X W b g) : LE C X W (.BinOp a .FloorDiv b pos) (b2 f g oFdiv) := lop op_fdivW (o2I fun _ _ _ _ => rfl) ha hb
theorem lpow (ha : LE C X W a f) (hb : LE C X W b g) : LE C X W (.BinOp a .Pow b pos) (b2 f g oPow) := lop op_pow (o2I fun _ _ _ _ => rfl) ha hb
theorem llt (ha : LE C X W a f) (hb : LE C X W b g) : LCmp C X W (.Compare a [.Lt] [b] pos) (b2 f g oLt) := lcmp (OpR.t op_lt) (o2I fun _ _ _ _ => rfl) ha hb (nomark _)
theorem lle (ha : LE C X W a f) (hb : LE C X W b g) : LCmp C X W (.Compare a [.LtE] [b] pos) (b2 f g oLe) := lcmp (OpR.t op_le) (o2I fun _ _ _ _ => rfl) ha hb (nomark _)
theorem lgt (ha : LE C X W a f) (hb : LE C X W b g) : LCmp C X W (.Compare a [.Gt] [b] pos) (b2 f g oGt) := lcmp (OpR.t op_gt) (o2I fun _ _ _ _ => rfl) ha hb (nomark _)
theorem lge (ha : LE C X W a f) (hb : LE C X W b g) : LCmp C X W (.Compare a [.GtE] [b] pos) (b2 f g oGe) := lcmp (OpR.t op_ge) (o2I fun _ _ _ _ => rfl) ha hb (nomark _)
theorem lstR {pins : List (Addr × Obj)} {σ : L2.St} {H : Hp} {s : Shared} {l : Addr} {xs : List V} (I : Inv X pins σ H s) (hH : Rd H l (.lst xs)) : xs.length ≤ sizeLine ∧ ∃ (its : List Value) (n : Nat), Vals xs its ∧ xs.length = its.length ∧ s.heap.get? l = some { cls := .type "list", data := .seq its.toArray n } := by
  obtain ⟨z, its, n, r, e⟩ := hH.ok I.hok
  exact ⟨z, its, n, r, r.length, e⟩
theorem list_add_any (l : Addr) (items : Array Value) (n : Nat) (sl : Array (Option Value)) (b : Addr) (items2 : Array Value) (n2 : Nat) (sl2 : Array (Option Value)) (hc0 : items.size + items2.size ≤ sizeLine) :
    Meets (Builtin.«list.__add__» ⟨[.ref l, .ref b], []⟩) (fun _ R s => s.heap.get? l = some { cls := .type "list", dict := none, data := .seq items n, slots := sl } ∧ s.heap.get? b = some { cls := .type "list", dict := none, data := .seq items2 n2, slots := sl2 } ∧ R (.ok (.ret (Value.ref s.heap.objs.size))) { s with heap := s.heap.push { cls := Value.type "list", data := Data.seq (items ++ items2) }, toks := s.toks }) :=
  .of_wp fun prog w A R s h => by
    obtain ⟨hp, g, d, tk, os⟩ := s
    obtain ⟨hl, hb, h⟩ := h
    have f1 := PySem.AutoSeq1.sub_list_list
    wp_walk using PySem.AutoSeq1.wpAny_loadPart' hl, PySem.AutoSeq1.wpAny_loadPart' hb
    exact ⟨_, rfl, h⟩
/-- a + b of lists: read ones, the script, lists of the module -/
def rCatS (K : PySem.W.Frag) : R2 := fun x y H Q => ∃ l b xs zs, x = .ref l ∧ y = .ref b ∧ SqL K H l xs ∧ SqL K H b zs ∧ xs.length + zs.length ≤ sizeLine ∧ ∀ p, H p = none → Q (.ref p) (upd H p (.lst (xs ++ zs)))
theorem op_catS : OpR X (binaryOp .Add) (rCatS X.K) := by
  intro pins s σ H x y v u Q I rx ry ⟨l, b, xs, zs, e1, e2, hl, hb, hz, q⟩
  subst e1; subst e2
  cases rx; cases ry
  obtain ⟨i1, r1, ⟨⟨c1, d1, dt1, s1⟩, n1, g1, hc1, hd1, ht1⟩, _⟩ := I.list hl
  obtain ⟨i2, r2, ⟨⟨c2, d2, dt2, s2⟩, n2, g2, hc2, hd2, ht2⟩, _⟩ := I.list hb
  cases hc1; cases hd1; cases ht1; cases hc2; cases hd2; cases ht2
  have l1 := r1.length
  have l2 := r2.length
  refine PySem.concat_meets ⟨_, g1, rfl⟩ ⟨_, g2, rfl⟩ noFill_list_add seq_list_add PySem.F.slot_list_add PySem.F.entry_list_add (PySem.F.args_list_add_2 _ _) (list_add_any l i1.toArray n1 s1 b i2.toArray n2 s2 (by rw [List.size_toArray, List.size_toArray]; omega)) ⟨g1, g2, ?_⟩
  rw [show i1.toArray ++ i2.toArray = (i1 ++ i2).toArray by simp]
  exact ⟨.ref _, _, I.lnew (t' := s.toks) (r1.append r2) (by rw [List.length_append]; omega), rfl, q _ I.fresh⟩
theorem ladd (al : Bool) (o : Ok C X W) (ha : LE C X W a f) (hb : LE C X W b g) : LE C X W (.BinOp a .Add b pos) (b2 f g (oAdd al)) := by
  refine lop (OpR.or op_add (OpR.or op_add_str (OpR.or op_catT op_catS))) ?_ ha hb
  intro μ S H x y dx dy σ Q R rx ry h
  unfold oAdd at h
  split at h
  · rename_i i j
    exact .inl ⟨i, j, rx, ry, h.ok .refl R rfl⟩
  · rename_i i j
    split at h
    · rename_i hz
      exact .inr (.inl ⟨i, j, rx, ry, hz, h.ok .refl R rfl⟩)
    · exact h.elim
  · rename_i xs ys
    split at h
    · rename_i hne
      obtain ⟨a1, v1, e1, t1, q1⟩ := rx
      obtain ⟨a2, v2, e2, t2, q2⟩ := ry
      rw [← o.K] at t1 t2
      have hl1 := q1.len
      have hl2 := q2.len
      have hz := mkT_size h
      refine .inr (.inr (.inl ⟨a1, a2, v1, v2, e1, e2, t1, t2, ?_, by rw [List.length_append] at hz; omega, fun z => ?_, fun _ p hp => mkT_good R (q1.append q2) h hp⟩))
      · intro z; rw [z] at hl1; exact hne.1 (List.length_eq_zero_iff.mp hl1)
      · rw [z] at hl2; exact absurd (List.length_eq_zero_iff.mp hl2) hne.2
    · exact h.elim
  · split at h
    · rename_i e1 e2
      obtain ⟨a1, v1, ev1, h1, q1⟩ := rx.list R e1
      obtain ⟨a2, v2, ev2, h2, q2⟩ := ry.list R e2
      have hz := mkL_size h
      have hl1 := q1.len
      have hl2 := q2.len
      rw [← o.K] at h1 h2
      exact .inr (.inr (.inr ⟨a1, a2, v1, v2, ev1, ev2, h1, h2, by rw [List.length_append] at hz; omega, fun p hp => mkL_good R (q1.append q2) h hp⟩))
    · exact h.elim
theorem RelDs.rep {K : PySem.W.Frag} {μ : Mu} {H : Hp} {ds : List D} {vs : List V} (r : RelDs K μ H ds vs) : ∀ n, RelDs K μ H (List.replicate n ds).flatten (List.replicate n vs).flatten
  | 0 => rfl
  | n + 1 => by rw [List.replicate_succ, List.replicate_succ, List.flatten_cons, List.flatten_cons]; exact r.append (RelDs.rep r n)
theorem lmul (al : Bool) (ha : LE C X W a f) (hb : LE C X W b g) : LE C X W (.BinOp a .Mult b pos) (b2 f g (oMul al)) := by
  refine lop (OpR.or op_mul op_rep) ?_ ha hb
  intro μ S H x y dx dy σ Q R rx ry h
  unfold oMul at h
  split at h
  · rename_i i j
    split at h
    · rename_i hp
      exact .inl ⟨i, j, rx, ry, hp, h.ok .refl R rfl⟩
    · exact h.elim
  · rename_i k _
    split at h
    · rename_i xs e1
      split at h
      · rename_i hk
        obtain ⟨a1, v1, ev1, h1, q1⟩ := rx.listR R e1
        refine .inr ⟨a1, k, v1, ev1, ry, h1, hk.1, hk.2.1, by rw [← q1.len]; exact hk.2.2, fun p hp => mkL_good R (q1.rep _) h hp⟩
      · exact h.elim
    · exact h.elim
  · exact h.elim
end
end DL
end
section
/-! DL3: equality, in, tests, displays, subscripts, slices, built-in calls. -/
namespace DL
open PySem PySem.Spec PyProof.Rows L2

/-! ### data as the model's PyData -/
def allP {α β : Type} (f : α → Option β) : List α → Option (List β)
  | [] => some []
  | d :: ds => (f d).bind fun p => (allP f ds).map fun ps => p :: ps
def toP : Nat → HS → D → Option PyData
  | _, _, .non => some .none
  | _, _, .bl b => some (.bool b)
  | _, _, .int i => some (.int i)
  | _, _, .str x => if PyData.strOk x = true then some (.str x) else none
  | n + 1, s, .tup ds => (allP (toP n s) ds).map .tuple
  | n + 1, s, .lst ds => (allP (toP n s) ds).map .list
  | n + 1, s, .scr ds => (allP (toP n s) ds).map .list
  | n + 1, s, .ref k => match s.h k with
    | some (.lst ds) => (allP (toP n s) ds).map .list
    | _ => none
  | 0, _, .tup _ => none
  | 0, _, .lst _ => none
  | 0, _, .scr _ => none
  | 0, _, .ref _ => none
section
variable {C : Ct} {μ : Mu} {S : HS} {H : Hp}
theorem allP_some {α β : Type} {f : α → Option β} : ∀ {ds : List α} {ps : List β}, allP f ds = some ps → (ds = [] ∧ ps = []) ∨ ∃ d r p q, ds = d :: r ∧ ps = p :: q ∧ f d = some p ∧ allP f r = some q
  | [], ps, h => by cases h; exact .inl ⟨rfl, rfl⟩
  | d :: ds, ps, h => by
    unfold allP at h
    cases e : f d with
    | none => rw [e] at h; cases h
    | some p =>
      rw [e] at h
      cases e' : allP f ds with
      | none => rw [e'] at h; cases h
      | some q => rw [e'] at h; cases h; exact .inr ⟨d, ds, p, q, rfl, rfl, e, e'⟩
theorem toPs_rel {n : Nat} (ih : ∀ d v p, toP n S d = some p → RelD C.K μ H d v → Dp C.K H v p ∧ p.canLay0 = true ∧ p.depth ≤ n) : ∀ (ds : List D) (vs : List V) (ps : List PyData), allP (toP n S) ds = some ps → RelDs C.K μ H ds vs →
    DpAll C.K H vs ps ∧ PyData.canLayAll0 ps = true ∧ PyData.depthAll ps ≤ n
  | [], vs, ps, h, r => by cases h; have r : vs = [] := r; subst r; exact ⟨.nil, rfl, Nat.zero_le _⟩
  | d :: ds, vs, ps, h, r => by
    rcases allP_some h with ⟨e, _⟩ | ⟨d', r', p, q, e, rfl, h1, h2⟩
    · cases e
    · cases e
      obtain ⟨v, u, rfl, r1, r2⟩ := r
      obtain ⟨a1, a2, a3⟩ := ih d v p h1 r1
      obtain ⟨b1, b2, b3⟩ := toPs_rel ih ds u q h2 r2
      refine ⟨.cons a1 b1, ?_, ?_⟩
      · simp only [PyData.canLayAll0, a2, b2, Bool.and_self]
      · simp only [PyData.depthAll]; omega
theorem toP_rel (R : Rep C μ S H) : ∀ (n : Nat) (d : D) (v : V) (p : PyData), toP n S d = some p → RelD C.K μ H d v → Dp C.K H v p ∧ p.canLay0 = true ∧ p.depth ≤ n
  | n, .non, v, p, h, r => by cases n <;> (cases h; cases (show v = .non from r); exact ⟨.non, rfl, Nat.zero_le _⟩)
  | n, .bl b, v, p, h, r => by cases n <;> (cases h; cases (show v = .bl b from r); exact ⟨.bl b, rfl, Nat.zero_le _⟩)
  | n, .int i, v, p, h, r => by cases n <;> (cases h; cases (show v = .int i from r); exact ⟨.int i, rfl, Nat.zero_le _⟩)
  | n, .str x, v, p, h, r => by
    have h' : (if PyData.strOk x = true then some (PyData.str x) else none) = some p := by cases n <;> exact h
    split at h'
    · rename_i hs
      cases h'; cases (show v = .str x from r); exact ⟨.str x, hs, Nat.zero_le _⟩
    · cases h'
  | 0, .tup ds, v, p, h, r => by cases h
  | 0, .lst ds, v, p, h, r => by cases h
  | 0, .scr ds, v, p, h, r => by cases h
  | 0, .ref k, v, p, h, r => by cases h
  | n + 1, .tup ds, v, p, h, r => by
    have h' : (allP (toP n S) ds).map PyData.tuple = some p := h
    cases e : allP (toP n S) ds with
    | none => rw [e] at h'; cases h'
    | some ps =>
      rw [e] at h'; cases h'
      obtain ⟨a, vs, rfl, t, q⟩ := r
      obtain ⟨b1, b2, b3⟩ := toPs_rel (toP_rel R n) ds vs ps e q
      exact ⟨.tup t b1, b2, by simp only [PyData.depth]; omega⟩
  | n + 1, .lst ds, v, p, h, r => by
    have h' : (allP (toP n S) ds).map PyData.list = some p := h
    cases e : allP (toP n S) ds with
    | none => rw [e] at h'; cases h'
    | some ps =>
      rw [e] at h'; cases h'
      obtain ⟨a, vs, rfl, t, _, q⟩ := r
      obtain ⟨b1, b2, b3⟩ := toPs_rel (toP_rel R n) ds vs ps e q
      exact ⟨.lst (.of t) b1, b2, by simp only [PyData.depth]; omega⟩
  | n + 1, .scr ds, v, p, h, r => by
    have h' : (allP (toP n S) ds).map PyData.list = some p := h
    cases e : allP (toP n S) ds with
    | none => rw [e] at h'; cases h'
    | some ps =>
      rw [e] at h'; cases h'
      obtain ⟨a, vs, rfl, t, q⟩ := r
      obtain ⟨b1, b2, b3⟩ := toPs_rel (toP_rel R n) ds vs ps e q
      exact ⟨.lst (t.imp (fun h => h.1) fun h => h) b1, b2, by simp only [PyData.depth]; omega⟩
  | n + 1, .ref k, v, p, h, r => by
    obtain ⟨a, rfl, m⟩ := r
    obtain ⟨o, e1, q⟩ := R.obj k a m
    have h' : (match S.h k with
      | some (.lst ds) => (allP (toP n S) ds).map PyData.list
      | _ => none) = some p := h
    rw [e1] at h'
    cases o with
    | lst ds =>
      cases e : allP (toP n S) ds with
      | none => simp only [e] at h'; cases h'
      | some ps =>
        simp only [e] at h'; cases h'
        obtain ⟨vs, hH, q⟩ := q
        obtain ⟨b1, b2, b3⟩ := toPs_rel (toP_rel R n) ds vs ps e q
        exact ⟨.lst (.inl (.inl hH)) b1, b2, by simp only [PyData.depth]; omega⟩
    | dict _ => cases h'
    | mix _ _ => cases h'
    | exn _ => cases h'
    | ins _ _ => cases h'
theorem shaped_of {p : PyData} (h1 : p.canLay0 = true) (h2 : p.depth ≤ 8) : SeqAt.shaped p = true := by
  unfold SeqAt.shaped
  rw [h1, decide_eq_true (by omega)]; rfl
end
def oEq (neg : Bool) : D → D → HS → Res D := fun x y s => match toP 8 s x, toP 8 s y with
  | some p, some q => .ok (.bl (PyData.eqv p q != neg)) s
  | _, _ => .bad
/-- flat data -/
def flP : D → Option PyData
  | .non => some .none
  | .bl b => some (.bool b)
  | .int i => some (.int i)
  | .str x => some (.str x)
  | _ => none
def oIn (neg : Bool) : D → D → HS → Res D
  | x, .tup ds, s => match flP x, allP flP ds with
    | some p, some qs => .ok (.bl ((qs.any fun z => PyData.eqv z p) != neg)) s
    | _, _ => .bad
  | x, y, s => match toP 8 s x, toP 8 s y with
    | some p, some (.list qs) => .ok (.bl ((qs.any fun z => PyData.eqv z p) != neg)) s
    | _, _ => .bad
def oIs (neg : Bool) : D → D → HS → Res D
  | x, .non, s => match x with
    | .non => .ok (.bl (!neg)) s
    | _ => .ok (.bl neg) s
  | .bl a, .bl b, s => .ok (.bl ((a == b) != neg)) s
  | _, _, _ => .bad
def oIx : D → D → HS → Res D
  | .tup ds, .int i, s => match atI ds i with
    | some d => .ok d s
    | none => .bad
  | x, .int i, s => match getL s x with
    | some ds => match atI ds i with
      | some d => .ok d s
      | none => .bad
    | none => .bad
  | _, _, _ => .bad
section
variable {C : Ct} {X : Cx} {W : WX} {a b e : Expr} {f g : SE} {pos : Pos}
theorem leq (neg : Bool) {op : CmpOp} (ho : OpR X (compareOp op) (fun x y H Q => ∃ d e, Dp X.K H x d ∧ Dp X.K H y e ∧ SeqAt.shaped d = true ∧ SeqAt.shaped e = true ∧ Q (.bl (PyData.eqv d e != neg)) H)) (o : Ok C X W) (ha : LE C X W a f) (hb : LE C X W b g) (hm : behindInMarks op b = false) :
    LCmp C X W (.Compare a [op] [b] pos) (b2 f g (oEq neg)) := lcmp ho (fun μ S H x y dx dy σ Q R rx ry h => by
  unfold oEq at h
  split at h
  · rename_i p q e1 e2
    obtain ⟨a1, a2, a3⟩ := toP_rel R 8 dx x p e1 rx
    obtain ⟨b1, b2, b3⟩ := toP_rel R 8 dy y q e2 ry
    rw [← o.K] at a1 b1
    exact ⟨p, q, a1, b1, shaped_of a2 a3, shaped_of b2 b3, h.ok .refl R rfl⟩
  · exact h.elim) ha hb hm
theorem leqq (hu : X.A.units + 64 < cLine) (o : Ok C X W) (ha : LE C X W a f) (hb : LE C X W b g) : LCmp C X W (.Compare a [.Eq] [b] pos) (b2 f g (oEq false)) :=
  leq false (fun pins s σ H x y v u Q I rx ry ⟨d, e, h1, h2, h3, h4, q⟩ => op_eqD hu pins s σ H x y v u Q I rx ry ⟨d, e, h1, h2, h3, h4, by rw [Bool.bne_false] at q; exact q⟩) o ha hb (nomark _)
theorem lne (hu : X.A.units + 64 < cLine) (o : Ok C X W) (ha : LE C X W a f) (hb : LE C X W b g) : LCmp C X W (.Compare a [.NotEq] [b] pos) (b2 f g (oEq true)) :=
  leq true (fun pins s σ H x y v u Q I rx ry ⟨d, e, h1, h2, h3, h4, q⟩ => op_neD hu pins s σ H x y v u Q I rx ry ⟨d, e, h1, h2, h3, h4, by rw [Bool.bne_true] at q; exact q⟩) o ha hb (nomark _)
theorem flP_rel {μ : Mu} {H : Hp} {d : D} {v : V} {p : PyData} (h : flP d = some p) (r : RelD C.K μ H d v) : flatV v = true ∧ ∀ (d' : D) (v' : V) (p' : PyData), flP d' = some p' → RelD C.K μ H d' v' → eqV v v' = PyData.eqv p p' := by
  cases d <;> cases h
  all_goals
    cases r
    refine ⟨rfl, fun d' v' p' h' r' => ?_⟩
    cases d' <;> cases h' <;> cases r' <;> rfl
theorem flPs_rel {μ : Mu} {H : Hp} {x : D} {v : V} {p : PyData} (hx : flP x = some p) (rx : RelD C.K μ H x v) : ∀ (ds : List D) (vs : List V) (ps : List PyData), allP flP ds = some ps → RelDs C.K μ H ds vs → vs.all flatV = true ∧ inV v vs = ps.any fun z => PyData.eqv z p
  | [], vs, ps, h, r => by cases h; have r : vs = [] := r; subst r; exact ⟨rfl, rfl⟩
  | d :: ds, vs, ps, h, r => by
    rcases allP_some h with ⟨e, _⟩ | ⟨d', r', q, qs, e, rfl, h1, h2⟩
    · cases e
    · cases e
      obtain ⟨u, us, rfl, r1, r2⟩ := r
      obtain ⟨i1, i2⟩ := flPs_rel hx rx ds us qs h2 r2
      obtain ⟨f1, f2⟩ := flP_rel h1 r1
      refine ⟨by simp [f1, i1], ?_⟩
      unfold inV at i2 ⊢
      rw [List.any_cons, List.any_cons, i2, f2 x v p hx rx]
theorem lin (neg : Bool) {op : CmpOp} (h1 : OpR X (compareOp op) (rIn X.K neg)) (h2 : OpR X (compareOp op) (fun x y H Q => ∃ d ds, Dp X.K H x d ∧ Dp X.K H y (.list ds) ∧ SeqAt.shaped d = true ∧ SeqAt.shaped (.list ds) = true ∧ Q (.bl ((ds.any fun z => PyData.eqv z d) != neg)) H)) (o : Ok C X W) (ha : LE C X W a f) (hb : LE C X W b g) (hm : behindInMarks op b = false) :
    LCmp C X W (.Compare a [op] [b] pos) (b2 f g (oIn neg)) := lcmp (OpR.or h1 h2) (fun μ S H x y dx dy σ Q R rx ry h => by
  unfold oIn at h
  split at h
  · rename_i ds
    split at h
    · rename_i p qs e1 e2
      obtain ⟨t, vs, rfl, ht, rs⟩ := ry
      rw [← o.K] at ht
      obtain ⟨q1, q2⟩ := flPs_rel e1 rx ds vs qs e2 rs
      refine .inl ⟨t, vs, rfl, .inr ht, (flP_rel e1 rx).1, q1, ?_⟩
      rw [q2]
      have hq := h.ok .refl R rfl
      cases neg
      · rw [Bool.bne_false] at hq; exact hq
      · rw [Bool.bne_true] at hq; exact hq
    · exact h.elim
  · split at h
    · rename_i p qs e1 e2
      obtain ⟨a1, a2, a3⟩ := toP_rel R 8 dx x p e1 rx
      obtain ⟨b1, b2, b3⟩ := toP_rel R 8 dy y _ e2 ry
      rw [← o.K] at a1 b1
      exact .inr ⟨p, qs, a1, b1, shaped_of a2 a3, shaped_of b2 b3, h.ok .refl R rfl⟩
    · exact h.elim) ha hb hm
theorem linn (hu : X.A.units + 65 < cLine) (o : Ok C X W) (ha : LE C X W a f) (hb : LE C X W b g) (hm : behindInMarks .In b = false := by rfl) : LCmp C X W (.Compare a [.In] [b] pos) (b2 f g (oIn false)) :=
  lin false op_in_seq (fun pins s σ H x y v u Q I rx ry ⟨d, e, h1, h2, h3, h4, q⟩ => op_inD hu pins s σ H x y v u Q I rx ry ⟨d, e, h1, h2, h3, h4, by rw [Bool.bne_false] at q; exact q⟩) o ha hb hm
theorem lnin (hu : X.A.units + 65 < cLine) (o : Ok C X W) (ha : LE C X W a f) (hb : LE C X W b g) (hm : behindInMarks .NotIn b = false := by rfl) : LCmp C X W (.Compare a [.NotIn] [b] pos) (b2 f g (oIn true)) :=
  lin true op_notIn_seq (fun pins s σ H x y v u Q I rx ry ⟨d, e, h1, h2, h3, h4, q⟩ => op_notInD hu pins s σ H x y v u Q I rx ry ⟨d, e, h1, h2, h3, h4, by rw [Bool.bne_true] at q; exact q⟩) o ha hb hm
theorem RelD.non_iff {μ : Mu} {H : Hp} {d : D} {v : V} (r : RelD C.K μ H d v) : (v = .non) ↔ d = .non := by
  cases d with
  | non => exact ⟨fun _ => rfl, fun _ => r⟩
  | bl b => cases (show v = .bl b from r); exact ⟨fun z => (nomatch z), fun z => (nomatch z)⟩
  | int b => cases (show v = .int b from r); exact ⟨fun z => (nomatch z), fun z => (nomatch z)⟩
  | str b => cases (show v = .str b from r); exact ⟨fun z => (nomatch z), fun z => (nomatch z)⟩
  | tup b => obtain ⟨_, _, rfl, _⟩ := r; exact ⟨fun z => (nomatch z), fun z => (nomatch z)⟩
  | lst b => obtain ⟨_, _, rfl, _⟩ := r; exact ⟨fun z => (nomatch z), fun z => (nomatch z)⟩
  | scr b => obtain ⟨_, _, rfl, _⟩ := r; exact ⟨fun z => (nomatch z), fun z => (nomatch z)⟩
  | ref b => obtain ⟨_, rfl, _⟩ := r; exact ⟨fun z => (nomatch z), fun z => (nomatch z)⟩
theorem lis0 (neg : Bool) {op : CmpOp} (h1 : OpR X (compareOp op) (fun x y H Q => y = .non ∧ Q (.bl (decide (x = .non) != neg)) H)) (h2 : OpR X (compareOp op) (fun x y H Q => ∃ a b : Bool, x = .bl a ∧ y = .bl b ∧ Q (.bl (decide (a = b) != neg)) H)) (ha : LE C X W a f) (hb : LE C X W b g) (hm : behindInMarks op b = false) :
    LCmp C X W (.Compare a [op] [b] pos) (b2 f g (oIs neg)) := lcmp (OpR.or h1 h2) (fun μ S H x y dx dy σ Q R rx ry h => by
  unfold oIs at h
  split at h
  · refine .inl ⟨ry, ?_⟩
    split at h
    · rw [decide_eq_true (show x = .non from rx), Bool.true_bne]
      exact h.ok .refl R rfl
    · rename_i hne
      rw [decide_eq_false (fun z => hne ((RelD.non_iff rx).mp z)), Bool.false_bne]
      exact h.ok .refl R rfl
  · rename_i p q
    exact .inr ⟨p, q, rx, ry, h.ok .refl R (show V.bl _ = V.bl _ by rw [Bool.beq_eq_decide_eq])⟩
  · exact h.elim) ha hb hm
theorem lis (ha : LE C X W a f) (hb : LE C X W b g) : LCmp C X W (.Compare a [.Is] [b] pos) (b2 f g (oIs false)) :=
  lis0 false (fun pins s σ H x y v u Q I rx ry ⟨h1, q⟩ => op_isN pins s σ H x y v u Q I rx ry ⟨h1, by rw [Bool.bne_false] at q; exact q⟩) (fun pins s σ H x y v u Q I rx ry ⟨a, b, h1, h2, q⟩ => op_isBl pins s σ H x y v u Q I rx ry ⟨a, b, h1, h2, by rw [Bool.bne_false] at q; exact q⟩) ha hb (nomark _)
theorem lisn (ha : LE C X W a f) (hb : LE C X W b g) : LCmp C X W (.Compare a [.IsNot] [b] pos) (b2 f g (oIs true)) :=
  lis0 true (fun pins s σ H x y v u Q I rx ry ⟨h1, q⟩ => op_notN pins s σ H x y v u Q I rx ry ⟨h1, by rw [Bool.bne_true] at q; exact q⟩) (fun pins s σ H x y v u Q I rx ry ⟨a, b, h1, h2, q⟩ => op_notBl pins s σ H x y v u Q I rx ry ⟨a, b, h1, h2, by rw [Bool.bne_true] at q; exact q⟩) ha hb (nomark _)
theorem RelDs.atI {K : PySem.W.Frag} {μ : Mu} {H : Hp} {ds : List D} {vs : List V} {i : Int} {d : D} (r : RelDs K μ H ds vs) (h : L2.atI ds i = some d) : ∃ v, L2.atI vs i = some v ∧ RelD K μ H d v := by
  unfold L2.atI at h ⊢
  rw [← r.len]
  cases e : ixN ds.length i with
  | none => rw [e] at h; cases h
  | some j => rw [e] at h; exact r.get h
theorem lix (o : Ok C X W) (ha : LE C X W a f) (hb : LE C X W b g) (hs : PlainIx b := by exact fun _ _ => rfl) : LE C X W (.Subscript a b pos) (b2 f g oIx) := lix0 (IxR.or ix_tup ix_list) (fun μ S H x y dx dy σ Q R rx ry h => by
  unfold oIx at h
  split at h
  · rename_i ds i
    split at h
    · rename_i d e
      obtain ⟨t, vs, rfl, ht, rs⟩ := rx
      obtain ⟨v, h1, h2⟩ := rs.atI e
      rw [← o.K] at ht
      exact .inl ⟨t, vs, i, v, rfl, ry, ht, h1, h.ok .refl R h2⟩
    · exact h.elim
  · rename_i i _
    split at h
    · rename_i ds e0
      split at h
      · rename_i d e
        obtain ⟨t, vs, rfl, ht, rs⟩ := rx.list R e0
        obtain ⟨v, h1, h2⟩ := rs.atI e
        exact .inr ⟨t, vs, i, v, rfl, ry, by rw [o.K]; exact ht, h1, h.ok .refl R h2⟩
      · exact h.elim
    · exact h.elim
  · exact h.elim) ha hb hs
end

/-! ### and, or, not, tests -/
def andE (f g : SE) : SE := fun sd s => (f sd s).bind fun x s1 => match x with
  | .bl true => g sd s1
  | .bl false => .ok (.bl false) s1
  | _ => .bad
def orE (f g : SE) : SE := fun sd s => (f sd s).bind fun x s1 => match x with
  | .bl true => .ok (.bl true) s1
  | .bl false => g sd s1
  | _ => .bad
def notE (f : SE) : SE := fun sd s => (f sd s).bind fun x s1 => match x with
  | .bl b => .ok (.bl (!b)) s1
  | _ => .bad
def andT (f g : ST) : ST := fun sd s => (f sd s).bind fun x s1 => if x = true then g sd s1 else .ok false s1
def orT (f g : ST) : ST := fun sd s => (f sd s).bind fun x s1 => if x = true then .ok true s1 else g sd s1
def notT (f : ST) : ST := fun sd s => (f sd s).bind fun x s1 => .ok (!x) s1
def ifE (c : ST) (f g : SE) : SE := fun sd s => (c sd s).bind fun x s1 => if x = true then f sd s1 else g sd s1
section
variable {C : Ct} {X : Cx} {W : WX} {a b e c : Expr} {rest : List Expr} {f g : SE} {ft gt : ST} {pos : Pos}
theorem land (ha : LE C X W a f) (hb : LE C X W (.BoolOp .And (b :: rest) pos) g) : LE C X W (.BoolOp .And (a :: b :: rest) pos) (andE f g) := PE.imp (pe_and ha hb) fun σ H Q h => Lift.k h fun sd x H1 μ1 S1 dx R1 rs1 rx h1 => by
  cases dx <;> try exact h1.elim
  rename_i z
  cases (show x = .bl z from rx)
  refine ⟨z, rfl, ?_⟩
  cases z
  · exact iteF (h1.ok .refl R1 rfl)
  · exact iteT (.here R1 rs1 h1)
theorem lor (ha : LE C X W a f) (hb : LE C X W (.BoolOp .Or (b :: rest) pos) g) : LE C X W (.BoolOp .Or (a :: b :: rest) pos) (orE f g) := PE.imp (pe_or ha hb) fun σ H Q h => Lift.k h fun sd x H1 μ1 S1 dx R1 rs1 rx h1 => by
  cases dx <;> try exact h1.elim
  rename_i z
  cases (show x = .bl z from rx)
  refine ⟨z, rfl, ?_⟩
  cases z
  · exact iteF (.here R1 rs1 h1)
  · exact iteT (h1.ok .refl R1 rfl)
theorem lone {op : BoolOp} (ha : LE C X W a f) : LE C X W (.BoolOp op [a] pos) f := pe_one ha
theorem lnot (ha : LE C X W a f) : LE C X W (.UnaryOp .Not a pos) (notE f) := PE.imp (pe_not ha) fun σ H Q h => Lift.k h fun sd x H1 μ1 S1 dx R1 rs1 rx h1 => by
  cases dx <;> try exact h1.elim
  rename_i z
  cases (show x = .bl z from rx)
  exact ⟨z, rfl, h1.ok .refl R1 rfl⟩
theorem tval (ha : LE C X W e f) (he : ∀ whole, isTrue e X.env whole = (do let v ← whole; standAt e.pos; holding [v] (truthy v)) := by intro _; rfl) : LT C X W e (tb f) := PT.imp (pt_val ha he) fun σ H Q h => Lift.k h fun sd x H1 μ1 S1 dx R1 rs1 rx h1 => by
  cases dx <;> try exact h1.elim
  rename_i z
  cases (show x = .bl z from rx)
  exact ⟨z, rfl, h1.ok .refl R1 rfl⟩
theorem wand1 (ha : LT C X W a ft) : LW C X W (.BoolOp .And [a] pos) ft := pw_and1 ha
theorem wor1 (ha : LT C X W a ft) : LW C X W (.BoolOp .Or [a] pos) ft := pw_or1 ha
theorem wand (ha : LT C X W a ft) (hb : LW C X W (.BoolOp .And (b :: rest) pos) gt) : LW C X W (.BoolOp .And (a :: b :: rest) pos) (andT ft gt) := PW.imp (pw_and ha hb) fun σ H Q h => Lift.k h fun sd x H1 μ1 S1 dx R1 rs1 rx h1 => by
  cases (show dx = x from rx)
  cases x
  · exact iteF (h1.ok .refl R1 rfl)
  · exact iteT (.here R1 rs1 h1)
theorem wor (ha : LT C X W a ft) (hb : LW C X W (.BoolOp .Or (b :: rest) pos) gt) : LW C X W (.BoolOp .Or (a :: b :: rest) pos) (orT ft gt) := PW.imp (pw_or ha hb) fun σ H Q h => Lift.k h fun sd x H1 μ1 S1 dx R1 rs1 rx h1 => by
  cases (show dx = x from rx)
  cases x
  · exact iteF (.here R1 rs1 h1)
  · exact iteT (h1.ok .refl R1 rfl)
theorem tw (h : LW C X W a ft) : LT C X W a ft := PW.pt h
theorem tnot (ha : LT C X W a ft) : LT C X W (.UnaryOp .Not a pos) (notT ft) := PT.imp (pt_not ha) fun σ H Q h => Lift.k h fun sd x H1 μ1 S1 dx R1 rs1 rx h1 => by
  cases (show dx = x from rx)
  exact h1.ok .refl R1 rfl
theorem lif (hc : LT C X W c ft) (ha : LE C X W a f) (hb : LE C X W b g) : LE C X W (.IfExp c a b pos) (ifE ft f g) := PE.imp (pe_ifExp hc ha hb) fun σ H Q h => Lift.k h fun sd x H1 μ1 S1 dx R1 rs1 rx h1 => by
  cases (show dx = x from rx)
  cases x
  · exact iteF (.here R1 rs1 h1)
  · exact iteT (.here R1 rs1 h1)
def negE (f : SE) : SE := fun sd s => (f sd s).bind fun x s1 => match x with
  | .int i => .ok (.int (-i)) s1
  | _ => .bad
theorem lneg (ha : LE C X W a f) : LE C X W (.UnaryOp .USub a pos) (negE f) := PE.imp (pe_un un_neg ha) fun σ H Q h => Lift.k h fun sd x H1 μ1 S1 dx R1 rs1 rx h1 => by
  cases dx <;> try exact h1.elim
  rename_i z
  cases (show x = .int z from rx)
  exact ⟨z, rfl, h1.ok .refl R1 rfl⟩
/-- a <= b < c of ints -/
def chE (o1 o2 : D → D → HS → Res D) (f g k : SE) : SE := fun sd s => (f sd s).bind fun x s1 => (g sd s1).bind fun y s2 => (o1 x y s2).bind fun z s3 => match z with
  | .bl true => (k sd s3).bind fun w s4 => o2 y w s4
  | .bl false => .ok (.bl false) s3
  | _ => .bad
theorem lift_chain {P P' : Int → Int → Bool} {k : SE} {σ : L2.St} {H : Hp} {Q : VK} (h : Lift C W (RelD C.K) (chE (opI (fun _ _ => True) fun i j => .bl (P i j)) (opI (fun _ _ => True) fun i j => .bl (P' i j)) f g k) σ H Q) :
    tChain (rI (fun _ _ => True) fun i j => .bl (P i j)) (rI (fun _ _ => True) fun i j => .bl (P' i j)) (Lift C W (RelD C.K) f) (Lift C W (RelD C.K) g) (Lift C W (RelD C.K) k) σ H Q := by
  obtain ⟨μ, sd, S, R, rs, h⟩ := h
  refine Lift.step _ Stable.true R rs trivial h fun x H1 μ1 S1 dx g1 R1 rs1 _ rx h1 => ?_
  refine Lift.step _ (Stable.rel (d := dx) (v := x)) R1 rs1 rx h1 fun y H2 μ2 S2 dy g2 R2 rs2 rx2 ry h2 => ?_
  cases dx <;> cases dy <;> try exact h2.elim
  rename_i i j
  cases (show x = .int i from rx2); cases (show y = .int j from ry)
  refine ⟨i, j, rfl, rfl, trivial, P i j, rfl, ?_⟩
  have h3 : Good C W (RelD C.K) μ2 σ H2 Q (match (D.bl (P i j)) with
    | .bl true => (k sd S2).bind fun w s4 => opI (fun _ _ => True) (fun i j => .bl (P' i j)) (.int j) w s4
    | .bl false => .ok (.bl false) S2
    | _ => .bad) := by
    have e : (opI (fun _ _ => True) (fun i j => D.bl (P i j)) (.int i) (.int j) S2) = .ok (.bl (P i j)) S2 := if_pos (e := Res.bad) trivial
    rw [e] at h2; exact h2
  cases q : P i j
  · rw [q] at h3; exact iteF (h3.ok .refl R2 rfl)
  · rw [q] at h3
    refine iteT (Lift.step _ Stable.true R2 rs2 trivial h3 fun z H4 μ4 S4 dz g4 R4 rs4 _ rz h4 => ?_)
    exact o2I (C := C) (W := W) (P := fun _ _ => True) (gd := fun i j => D.bl (P' i j)) (gv := fun i j => V.bl (P' i j)) (fun _ _ _ _ => rfl) μ4 S4 H4 (.int j) z (.int j) dz σ Q R4 rfl rz h4
theorem lchain {op op' : CmpOp} {P P' : Int → Int → Bool} (ho : OpR X (compareOp op) (rI (fun _ _ => True) fun i j => .bl (P i j))) (ho' : OpR X (compareOp op') (rI (fun _ _ => True) fun i j => .bl (P' i j))) {k : SE} (ha : LE C X W a f) (hb : LE C X W b g) (hc : LE C X W c k)
    (hm : lastMarks [op, op'] [b, c] = false := by with_unfolding_all rfl) : LCmp C X W (.Compare a [op, op'] [b, c] pos) (chE (opI (fun _ _ => True) fun i j => .bl (P i j)) (opI (fun _ _ => True) fun i j => .bl (P' i j)) f g k) :=
  ⟨PE.imp (pe_chain ho ho' ha hb hc hm) fun _ _ _ h => lift_chain h, PT.imp (pt_chain ho ho' ha hb hc hm) fun _ _ _ h => lift_chain h.tb⟩
theorem lchain_lelt {k : SE} (ha : LE C X W a f) (hb : LE C X W b g) (hc : LE C X W c k) (hm : lastMarks [.LtE, .Lt] [b, c] = false := by with_unfolding_all rfl) : LCmp C X W (.Compare a [.LtE, .Lt] [b, c] pos) (chE oLe oLt f g k) := lchain (OpR.t op_le) (OpR.t op_lt) ha hb hc hm
theorem lchain_lele {k : SE} (ha : LE C X W a f) (hb : LE C X W b g) (hc : LE C X W c k) (hm : lastMarks [.LtE, .LtE] [b, c] = false := by with_unfolding_all rfl) : LCmp C X W (.Compare a [.LtE, .LtE] [b, c] pos) (chE oLe oLe f g k) := lchain (OpR.t op_le) (OpR.t op_le) ha hb hc hm
end
end DL
end
section
/-! DL4: displays, slices, calls of built-ins by values. -/
namespace DL
open PySem PySem.Spec PyProof.Rows L2

def anil : SA := fun _ s => .ok [] s
def acons (f : SE) (g : SA) : SA := fun sd s => (f sd s).bind fun x s1 => (g sd s1).bind fun xs s2 => .ok (x :: xs) s2
def tupE (g : SA) : SE := fun sd s => (g sd s).bind fun xs s1 => mkT xs s1
def lstE (b : Bool) (g : SA) : SE := fun sd s => (g sd s).bind fun xs s1 => mkL b xs s1
def bN (g : SA) (op : List D → HS → Res D) : SE := fun sd s => (g sd s).bind op
section
variable {C : Ct} {X : Cx} {W : WX} {a b e : Expr} {es : List Expr} {f : SE} {g : SA} {pos : Pos}
theorem lanil : LA C X W [] anil := PA.imp pa_nil fun σ H Q ⟨μ, sd, S, R, rs, h⟩ => Good.ok h .refl R rfl
theorem lacons (ha : LE C X W e f) (hr : LA C X W es g) (hs : starEach (e :: es) X.env = (false, eval e X.env) :: starEach es X.env := by rfl) : LA C X W (e :: es) (acons f g) := PA.imp (pa_cons ha hr hs) fun σ H Q h => by
  obtain ⟨μ, sd, S, R, rs, h⟩ := h
  refine Lift.step _ Stable.true R rs trivial h fun x H1 μ1 S1 dx g1 R1 rs1 _ rx h1 => ?_
  refine Lift.step _ (Stable.rel (d := dx) (v := x)) R1 rs1 rx h1 fun ys H2 μ2 S2 dy g2 R2 rs2 rx2 ry h2 => ?_
  exact h2.ok .refl R2 ⟨x, ys, rfl, rx2, ry⟩
theorem ltup {x1 : Nat} (hg : LA C X W es g) : LE C X W (.Tuple es x1 pos) (tupE g) := PE.imp (pe_tup hg) fun σ H Q h => Lift.k h fun sd x H1 μ1 S1 dx R1 rs1 rx h1 => by
  have hl := rx.len
  exact ⟨by have := mkT_size h1; omega, fun p hp => mkT_good R1 rx h1 hp⟩
theorem llst (al : Bool) (hg : LA C X W es g) : LE C X W (.List es pos) (lstE al g) := PE.imp (pe_lst hg) fun σ H Q h => Lift.k h fun sd x H1 μ1 S1 dx R1 rs1 rx h1 => by
  have hl := rx.len
  exact ⟨by have := mkL_size h1; omega, fun p hp => mkL_good R1 rx h1 hp⟩
end

/-! ### slices -/
abbrev SO := Sl → HS → Res (Option Int)
abbrev rO : Mu → Hp → Option Int → Option Int → Prop := fun _ _ a b => a = b
def LO (C : Ct) (X : Cx) (W : WX) (e : Option Expr) (f : SO) : Prop := PO X e (Lift C W rO f)
def noP : SO := fun _ s => .ok none s
def someP (f : SE) : SO := fun sd s => (f sd s).bind fun x s1 => match x with
  | .int i => .ok (some i) s1
  | _ => .bad
def cutD (xs : List D) (lo hi : Option Int) : List D := (xs.drop (HT.sIx xs.length 0 lo)).take (HT.sIx xs.length xs.length hi - HT.sIx xs.length 0 lo)
def oSl (b : Bool) (x : D) (lo hi : Option Int) (s : HS) : Res D := match x with
  | .tup ds => if HT.sIx ds.length 0 lo = 0 ∧ HT.sIx ds.length ds.length hi = ds.length then .bad else mkT (cutD ds lo hi) s
  | x => match getL s x with
    | some ds => mkL b (cutD ds lo hi) s
    | none => .bad
def slE (b : Bool) (f : SE) (lo hi : SO) : SE := fun sd s => (f sd s).bind fun x s1 => (lo sd s1).bind fun l s2 => (hi sd s2).bind fun u s3 => oSl b x l u s3
def revE (b : Bool) (f : SE) : SE := fun sd s => (f sd s).bind fun x s1 => match getL s1 x with
  | some ds => mkL b ds.reverse s1
  | none => .bad
section
variable {C : Ct} {X : Cx} {W : WX} {a b e : Expr} {lo hi : Option Expr} {f : SE} {fl fh : SO} {pos p2 : Pos}
theorem PO.imp {t t' : TO} (h : PO X lo t) (hi : ∀ σ H Q, t' σ H Q → t σ H Q) : PO X lo t' := ⟨fun pins s σ H Q I q => h.run pins s σ H Q I (hi _ _ _ q)⟩
theorem lonone : LO C X W none noP := PO.imp po_none fun σ H Q ⟨μ, sd, S, R, rs, h⟩ => Good.ok h .refl R rfl
theorem losome (ha : LE C X W e f) : LO C X W (some e) (someP f) := PO.imp (po_some ha) fun σ H Q h => Lift.k h fun sd x H1 μ1 S1 dx R1 rs1 rx h1 => by
  cases dx <;> try exact h1.elim
  rename_i i
  exact ⟨i, rx, h1.ok .refl R1 rfl⟩
theorem Stable.rO {K : PySem.W.Frag} {d v : Option Int} : Stable K fun μ H => rO μ H d v := fun _ _ _ _ _ h => h
theorem lslice (al : Bool) (o : Ok C X W) (ha : LE C X W e f) (hl : LO C X W lo fl) (hh : LO C X W hi fh) : LE C X W (.Subscript e (.Slice lo hi none p2) pos) (slE al f fl fh) := PE.imp (pe_slice (SlR.or sl_tup sl_list) ha hl hh) fun σ H Q h => by
  obtain ⟨μ, sd, S, R, rs, h⟩ := h
  refine Lift.step _ Stable.true R rs trivial h fun x H1 μ1 S1 dx g1 R1 rs1 _ rx h1 => ?_
  refine Lift.step _ (Stable.rel (d := dx) (v := x)) R1 rs1 rx h1 fun l H2 μ2 S2 dl g2 R2 rs2 rx2 rl h2 => ?_
  refine Lift.step _ (Stable.rel (d := dx) (v := x)) R2 rs2 rx2 h2 fun u H3 μ3 S3 du g3 R3 rs3 rx3 ru h3 => ?_
  cases (show dl = l from rl); cases (show du = u from ru)
  unfold oSl at h3
  split at h3
  · rename_i ds
    obtain ⟨t, vs, rfl, ht, rr⟩ := rx3
    rw [← o.K] at ht
    have hl := rr.len
    split at h3
    · exact h3.elim
    · rename_i hn
      refine .inl ⟨t, vs, rfl, ht, by rw [← hl]; exact hn, fun p hp => ?_⟩
      refine mkT_good R3 ?_ h3 hp
      unfold cutD cutV; rw [← hl]
      exact (rr.drop _).take _
  · split at h3
    · rename_i ds e0
      obtain ⟨t, vs, rfl, ht, rr⟩ := rx3.list R3 e0
      have hl := rr.len
      refine .inr ⟨t, vs, rfl, by rw [o.K]; exact ht, fun p hp => ?_⟩
      refine mkL_good R3 ?_ h3 hp
      unfold cutD cutV; rw [← hl]
      exact (rr.drop _).take _
    · exact h3.elim
theorem lrev (al : Bool) (o : Ok C X W) {k : Nat} {p1 p3 : Pos} (ha : LE C X W e f) : LE C X W (.Subscript e (.Slice none none (some (.UnaryOp .USub (.Constant (.int 1) k p1) p2)) p3) pos) (revE al f) := PE.imp (pe_revL ha) fun σ H Q h => Lift.k h fun sd x H1 μ1 S1 dx R1 rs1 rx h1 => by
  split at h1
  · rename_i ds e0
    obtain ⟨t, vs, rfl, ht, rr⟩ := rx.list R1 e0
    exact ⟨t, vs, rfl, by rw [o.K]; exact ht, fun p hp => mkL_good R1 rr.reverse h1 hp⟩
  · exact h1.elim
end

/-! ### calls of built-ins -/
def ON (C : Ct) (W : WX) (r : List V → Hp → VK → Prop) (op : List D → HS → Res D) : Prop := ∀ (μ : Mu) (S : HS) (H : Hp) (xs : List V) (ds : List D) (σ : L2.St) (Q : VK), Rep C μ S H → RelDs C.K μ H ds xs → Good C W (RelD C.K) μ σ H Q (op ds S) → r xs H Q
def oLen : List D → HS → Res D := fun xs s => match xs with
  | [.tup ds] => .ok (.int ds.length) s
  | [.str x] => if x.length ≤ sizeLine then .ok (.int x.length) s else .bad
  | [x] => match getL s x with
    | some ds => .ok (.int ds.length) s
    | none => .bad
  | _ => .bad
def oInt : List D → HS → Res D := fun xs s => match xs with
  | [.int i] => .ok (.int i) s
  | [.bl b] => .ok (.int (if b then 1 else 0)) s
  | _ => .bad
def oList (al : Bool) : List D → HS → Res D := fun xs s => match xs with
  | [.tup ds] => mkL al ds s
  | [x] => match getL s x with
    | some ds => mkL al ds s
    | none => .bad
  | _ => .bad
def oTuple : List D → HS → Res D := fun xs s => match xs with
  | [.tup ds] => .ok (.tup ds) s
  | [x] => match getL s x with
    | some ds => mkT ds s
    | none => .bad
  | _ => .bad
def oMin : List D → HS → Res D := fun xs s => match xs with
  | [.int i, .int j] => .ok (.int (if j < i then j else i)) s
  | _ => .bad
def oMax : List D → HS → Res D := fun xs s => match xs with
  | [.int i, .int j] => .ok (.int (if j > i then j else i)) s
  | _ => .bad
def oStr : List D → HS → Res D := fun xs s => match xs with
  | [.int i] => if i.natAbs.log2 < 1920 then .ok (.str (toString i)) s else .bad
  | _ => .bad
def intOf : D → Option Int
  | .int i => some i
  | _ => none
def sortZ (ns : List Int) : List Int := ns.mergeSort fun a b => decide (a ≤ b)
def oSorted (al : Bool) : List D → HS → Res D := fun xs s => match xs with
  | [x] => match (getL s x).bind (allP intOf) with
    | some ns => mkL al ((sortZ ns).map D.int) s
    | none => .bad
  | _ => .bad
section
variable {C : Ct} {X : Cx} {W : WX} {a b e : Expr} {es : List Expr} {f : SE} {g : SA} {pos p : Pos} {x : Str}
theorem lcB {id : String} {r : List V → Hp → VK → Prop} {op : List D → HS → Res D} (hc : CallR X (.builtin id) r) (hv : ON C W r op) (hg : Gl X x) (hm : X.mg x = none) (hb : bootBuiltins x = some (.builtin id)) (ha : LA C X W (e :: es) g) (hn : x ≠ "__name__" := by decide) (hdb : (x == ("__debug__" : Str)) = false := by decide)
    (he : starEach (e :: es) X.env = (false, eval e X.env) :: starEach es X.env := by rfl) (hpl : (backTo pos (starEach es X.env)).any (·.1) = false := by rfl) : LE C X W (.Call (.Name x p) (e :: es) [] pos) (bN g op) :=
  PE.imp (pe_callB hc hg hm hb ha hn hdb he hpl) fun σ H Q h => Lift.k h fun sd x H1 μ1 S1 dx R1 rs1 rx h1 => hv μ1 S1 H1 x dx σ Q R1 rx h1
theorem lcT {T : String} {r : List V → Hp → VK → Prop} {op : List D → HS → Res D} (hc : CallR X (.type T) r) (hv : ON C W r op) (hg : Gl X x) (hm : X.mg x = none) (hb : bootBuiltins x = some (.type T)) (ha : LA C X W (e :: es) g) (hn : x ≠ "__name__" := by decide) (hdb : (x == ("__debug__" : Str)) = false := by decide)
    (he : starEach (e :: es) X.env = (false, eval e X.env) :: starEach es X.env := by rfl) (hpl : (backTo pos (starEach es X.env)).any (·.1) = false := by rfl) : LE C X W (.Call (.Name x p) (e :: es) [] pos) (bN g op) :=
  PE.imp (pe_callTy hc hg hm hb ha hn hdb he hpl) fun σ H Q h => Lift.k h fun sd x H1 μ1 S1 dx R1 rs1 rx h1 => hv μ1 S1 H1 x dx σ Q R1 rx h1
theorem RelDs.l1 {K : PySem.W.Frag} {μ : Mu} {H : Hp} {d : D} {vs : List V} (r : RelDs K μ H [d] vs) : ∃ v, vs = [v] ∧ RelD K μ H d v := by
  obtain ⟨v, r, rfl, h, h2⟩ := r
  have h2 : r = [] := h2
  subst h2
  exact ⟨v, rfl, h⟩
theorem RelDs.l2 {K : PySem.W.Frag} {μ : Mu} {H : Hp} {d e : D} {vs : List V} (r : RelDs K μ H [d, e] vs) : ∃ v u, vs = [v, u] ∧ RelD K μ H d v ∧ RelD K μ H e u := by
  obtain ⟨v, r, rfl, h, h2⟩ := r
  obtain ⟨u, rfl, h3⟩ := h2.l1
  exact ⟨v, u, rfl, h, h3⟩
theorem onLen (o : Ok C X W) : ON C W (fun xs H Q => (∃ p ys, xs = [.ref p] ∧ (SqL X.K H p ys ∨ SqT X.K H p ys) ∧ Q (.int ys.length) H) ∨ ∃ z, xs = [.str z] ∧ z.length ≤ sizeLine ∧ Q (.int z.length) H) oLen := by
  intro μ S H xs ds σ Q R r h
  unfold oLen at h
  split at h
  · obtain ⟨v, rfl, t, vs, rfl, ht, rr⟩ := r.l1
    rw [← o.K] at ht
    exact .inl ⟨t, vs, rfl, .inr ht, h.ok .refl R (show V.int _ = V.int _ by rw [rr.len])⟩
  · obtain ⟨v, rfl, rv⟩ := r.l1
    split at h
    · rename_i hz
      cases (show v = .str _ from rv)
      exact .inr ⟨_, rfl, hz, h.ok .refl R rfl⟩
    · exact h.elim
  · split at h
    · rename_i e0
      obtain ⟨v, rfl, rv⟩ := r.l1
      obtain ⟨t, vs, rfl, ht, rr⟩ := rv.list R e0
      exact .inl ⟨t, vs, rfl, .inl (by rw [o.K]; exact ht), h.ok .refl R (show V.int _ = V.int _ by rw [rr.len])⟩
    · exact h.elim
  · exact h.elim
theorem onInt : ON C W (fun xs H Q => (∃ i, xs = [.int i] ∧ Q (.int i) H) ∨ ∃ k, xs = [.bl k] ∧ Q (.int (if k then 1 else 0)) H) oInt := by
  intro μ S H xs ds σ Q R r h
  unfold oInt at h
  split at h
  · obtain ⟨v, rfl, rv⟩ := r.l1
    cases (show v = .int _ from rv)
    exact .inl ⟨_, rfl, h.ok .refl R rfl⟩
  · obtain ⟨v, rfl, rv⟩ := r.l1
    cases (show v = .bl _ from rv)
    exact .inr ⟨_, rfl, h.ok .refl R rfl⟩
  · exact h.elim
theorem onList (o : Ok C X W) (al : Bool) : ON C W (fun xs H Q => ∃ p ys, xs = [.ref p] ∧ (SqL X.K H p ys ∨ SqT X.K H p ys) ∧ ∀ l, H l = none → Q (.ref l) (upd H l (.lst ys))) (oList al) := by
  intro μ S H xs ds σ Q R r h
  unfold oList at h
  split at h
  · obtain ⟨v, rfl, t, vs, rfl, ht, rr⟩ := r.l1
    rw [← o.K] at ht
    exact ⟨t, vs, rfl, .inr ht, fun p hp => mkL_good R rr h hp⟩
  · split at h
    · rename_i e0
      obtain ⟨v, rfl, rv⟩ := r.l1
      obtain ⟨t, vs, rfl, ht, rr⟩ := rv.list R e0
      exact ⟨t, vs, rfl, .inl (by rw [o.K]; exact ht), fun p hp => mkL_good R rr h hp⟩
    · exact h.elim
  · exact h.elim
theorem onTuple (o : Ok C X W) : ON C W (fun xs H Q => ∃ p ys, xs = [.ref p] ∧ ((SqL X.K H p ys ∧ ∀ l, H l = none → Q (.ref l) (upd H l (.tup ys))) ∨ (SqT X.K H p ys ∧ Q (.ref p) H))) oTuple := by
  intro μ S H xs ds σ Q R r h
  unfold oTuple at h
  split at h
  · obtain ⟨v, rfl, t, vs, rfl, ht, rr⟩ := r.l1
    have ht' := ht
    rw [← o.K] at ht'
    exact ⟨t, vs, rfl, .inr ⟨ht', h.ok .refl R ⟨t, vs, rfl, ht, rr⟩⟩⟩
  · split at h
    · rename_i e0
      obtain ⟨v, rfl, rv⟩ := r.l1
      obtain ⟨t, vs, rfl, ht, rr⟩ := rv.list R e0
      exact ⟨t, vs, rfl, .inl ⟨by rw [o.K]; exact ht, fun p hp => mkT_good R rr h hp⟩⟩
    · exact h.elim
  · exact h.elim
theorem onMin : ON C W (fun xs H Q => ∃ i j, xs = [.int i, .int j] ∧ Q (.int (if j < i then j else i)) H) oMin := by
  intro μ S H xs ds σ Q R r h
  unfold oMin at h
  split at h
  · obtain ⟨v, u, rfl, rv, ru⟩ := r.l2
    cases (show v = .int _ from rv); cases (show u = .int _ from ru)
    exact ⟨_, _, rfl, h.ok .refl R rfl⟩
  · exact h.elim
theorem onMax : ON C W (fun xs H Q => ∃ i j, xs = [.int i, .int j] ∧ Q (.int (if j > i then j else i)) H) oMax := by
  intro μ S H xs ds σ Q R r h
  unfold oMax at h
  split at h
  · obtain ⟨v, u, rfl, rv, ru⟩ := r.l2
    cases (show v = .int _ from rv); cases (show u = .int _ from ru)
    exact ⟨_, _, rfl, h.ok .refl R rfl⟩
  · exact h.elim
theorem onStr : ON C W (fun xs H Q => ∃ i, xs = [.int i] ∧ i.natAbs.log2 < 1920 ∧ Q (.str (toString i)) H) oStr := by
  intro μ S H xs ds σ Q R r h
  unfold oStr at h
  split at h
  · obtain ⟨v, rfl, rv⟩ := r.l1
    cases (show v = .int _ from rv)
    split at h
    · rename_i hz
      exact ⟨_, rfl, hz, h.ok .refl R rfl⟩
    · exact h.elim
  · exact h.elim
theorem ints_of {K : PySem.W.Frag} {μ : Mu} {H : Hp} : ∀ {ds : List D} {vs : List V} {ns : List Int}, RelDs K μ H ds vs → allP intOf ds = some ns → vs = ns.map V.int ∧ ds = ns.map D.int
  | [], vs, ns, r, h => by cases h; have r : vs = [] := r; subst r; exact ⟨rfl, rfl⟩
  | d :: ds, vs, ns, ⟨v, u, e, r1, r2⟩, h => by
    subst e
    rcases allP_some h with ⟨e, _⟩ | ⟨d', r', p, q, e, rfl, h1, h2⟩
    · cases e
    · cases e
      obtain ⟨e1, e2⟩ := ints_of r2 h2
      cases d <;> cases h1
      cases (show v = .int _ from r1)
      exact ⟨by rw [e1]; rfl, by rw [e2]; rfl⟩
theorem sortZ_of {ns ns' : List Int} (hp : ns'.Perm ns) (hs : ns'.Pairwise (· ≤ ·)) : ns' = sortZ ns := by
  have h1 : (sortZ ns).Perm ns := List.mergeSort_perm _ _
  have h2 : (sortZ ns).Pairwise (· ≤ ·) := by
    have := List.pairwise_mergeSort (le := fun a b : Int => decide (a ≤ b)) (fun a b c h1 h2 => by simp at h1 h2 ⊢; omega) (fun a b => by simp; omega) ns
    exact this.imp fun h => by simpa using h
  exact List.Perm.eq_of_pairwise (fun a b _ _ h1 h2 => Int.le_antisymm h1 h2) hs h2 (hp.trans h1.symm)
theorem onSorted (o : Ok C X W) (al : Bool) : ON C W (rSortedI X.K) (oSorted al) := by
  intro μ S H xs ds σ Q R r h
  unfold oSorted at h
  split at h
  · split at h
    · rename_i x _ ns e0
      obtain ⟨v, rfl, rv⟩ := r.l1
      cases e1 : getL S x with
      | none => rw [e1] at e0; cases e0
      | some ds =>
        rw [e1] at e0
        obtain ⟨t, vs, rfl, ht, rr⟩ := rv.list R e1
        obtain ⟨q1, q2⟩ := ints_of rr e0
        subst q1
        exact ⟨t, ns, rfl, by rw [o.K]; exact ht, fun ns' p hp hs hn => by rw [sortZ_of hp hs]; exact mkL_good R (RelDs.ints _) h hn⟩
    · exact h.elim
  · exact h.elim
end

/-! ### methods of lists -/
def mth (f : SE) (g : SA) (op : D → List D → HS → Res D) : SE := fun sd s => (f sd s).bind fun x s1 => match getL s1 x with
  | some _ => (g sd s1).bind fun xs s2 => op x xs s2
  | none => .bad
def OM (C : Ct) (W : WX) (r : V → List V → Hp → VK → Prop) (op : D → List D → HS → Res D) : Prop := ∀ (μ : Mu) (S : HS) (H : Hp) (x : V) (dx : D) (xs : List V) (ds : List D) (σ : L2.St) (Q : VK), Rep C μ S H → RelD C.K μ H dx x → RelDs C.K μ H ds xs → Good C W (RelD C.K) μ σ H Q (op dx ds S) → r x xs H Q
def mutL (x : D) (s : HS) (k : Nat → List D → Res D) : Res D := match x with
  | .ref n => match s.h n with
    | some (.lst ds) => k n ds
    | _ => .bad
  | _ => .bad
def oAppend (x : D) (xs : List D) (s : HS) : Res D := match xs with
  | [d] => mutL x s fun n ds => if ds.length < sizeLine then .ok .non (s.put n (.lst (ds ++ [d]))) else .bad
  | _ => .bad
def oExtend (x : D) (xs : List D) (s : HS) : Res D := match xs with
  | [d] => match getR s d with
    | some es => mutL x s fun n ds => if ds.length + es.length ≤ sizeLine then .ok .non (s.put n (.lst (ds ++ es))) else .bad
    | none => .bad
  | _ => .bad
def oPop (x : D) (xs : List D) (s : HS) : Res D := match xs with
  | [] => mutL x s fun n ds => match ds[ds.length - 1]? with
    | some d => .ok d (s.put n (.lst ds.dropLast))
    | none => .bad
  | [.int i] => mutL x s fun n ds => if -(2 ^ 63) ≤ i ∧ i < 2 ^ 63 then match seqIndex? i ds.length with
      | some k => match ds[k]? with
        | some d => .ok d (s.put n (.lst (ds.eraseIdx k)))
        | none => .bad
      | none => .bad
    else .bad
  | _ => .bad
def oClear (x : D) (xs : List D) (s : HS) : Res D := match xs with
  | [] => mutL x s fun n ds => .ok .non (s.put n (.lst []))
  | _ => .bad
def oRemove (x : D) (xs : List D) (s : HS) : Res D := match xs with
  | [.int k] => mutL x s fun n ds => match allP intOf ds with
    | some ns => if k ∈ ns then .ok .non (s.put n (.lst ((ns.eraseIdx (ns.idxOf k)).map D.int))) else .bad
    | none => .bad
  | _ => .bad
def oCount (x : D) (xs : List D) (s : HS) : Res D := match xs with
  | [.int k] => match (getL s x).bind (allP intOf) with
    | some ns => .ok (.int (ns.count k : Nat)) s
    | none => .bad
  | _ => .bad
section
variable {C : Ct} {X : Cx} {W : WX} {a b e ob : Expr} {es : List Expr} {f : SE} {g : SA} {pos p apos cpos : Pos} {x : Str}
theorem mutL_good {μ : Mu} {S : HS} {H : Hp} {dx : D} {v : V} {σ : L2.St} {Q : VK} {k : Nat → List D → Res D} (R : Rep C μ S H) (r : RelD C.K μ H dx v) (h : Good C W (RelD C.K) μ σ H Q (mutL dx S k)) :
    ∃ n a ds vs, dx = .ref n ∧ v = .ref a ∧ μ n = some a ∧ S.h n = some (.lst ds) ∧ H a = some (.lst vs) ∧ RelDs C.K μ H ds vs ∧ Good C W (RelD C.K) μ σ H Q (k n ds) := by
  unfold mutL at h
  split at h
  · rename_i n
    split at h
    · rename_i ds e0
      obtain ⟨a, rfl, hm⟩ := r
      obtain ⟨o, e1, q⟩ := R.obj n a hm
      rw [e0] at e1; cases e1
      obtain ⟨vs, h1, h2⟩ := q
      exact ⟨n, a, ds, vs, rfl, rfl, hm, e0, h1, h2, h⟩
    · exact h.elim
  · exact h.elim
theorem put_good {μ : Mu} {S : HS} {H : Hp} {n : Nat} {ad : Addr} {σ : L2.St} {Q : VK} {d : D} {v : V} {ds : List D} {vs : List V} (R : Rep C μ S H) (hm : μ n = some ad) (r : RelDs C.K μ H ds vs) (rd : RelD C.K μ H d v) (h : Good C W (RelD C.K) μ σ H Q (.ok d (S.put n (.lst ds)))) : Q v (upd H ad (.lst vs)) := by
  have g := G.put (u := .lst vs) R hm
  exact h.ok g (R.put hm ⟨vs, upd_same, RelDs.mono g _ _ r⟩) (RelD.mono g _ _ rd)
theorem omAppend : OM C W rAppend oAppend := by
  intro μ S H x dx xs ds σ Q R rx rs h
  unfold oAppend at h
  split at h
  · obtain ⟨y, rfl, ry⟩ := rs.l1
    obtain ⟨n, a, ds, vs, rfl, rfl, hm, e0, h1, h2, h⟩ := mutL_good R rx h
    split at h
    · rename_i hz
      exact ⟨a, vs, y, rfl, rfl, h1, by rw [← h2.len]; exact hz, put_good (d := .non) R hm (h2.append (RelDs.one ry)) rfl h⟩
    · exact h.elim
  · exact h.elim
def rExtendR : V → List V → Hp → VK → Prop := fun x vs H Q => ∃ l b xs zs, x = .ref l ∧ vs = [.ref b] ∧ H l = some (.lst xs) ∧ Rd H b (.lst zs) ∧ xs.length + zs.length ≤ sizeLine ∧ Q .non (upd H l (.lst (xs ++ zs)))
theorem mt_extendR : MtM X "list.extend" rExtendR := by
  intro pins s σ H x vs v us Q I rx rv ⟨l, b, xs, zs, ex, ev, hH, hB, hz, q⟩
  subst ex; subst ev
  cases rx
  obtain ⟨u, rfl, ru⟩ := rv.one
  cases ru
  obtain ⟨_, i1, n1, r1, l1, g1⟩ := I.lstM hH
  obtain ⟨_, i2, n2, r2, l2, g2⟩ := lstR I hB
  have hsz : i1.toArray.size + i2.toArray.size ≤ sizeLine := by rw [List.size_toArray, List.size_toArray]; omega
  have hlong : ¬ (!i1.toArray.isEmpty && Builtin.List.listTooLong (i1.toArray.size + i2.toArray.size)) = true := by
    rw [notLongL hsz, Bool.and_false]
    decide
  refine call_meets F.slot_list_extend ⟨_, g1, rfl⟩ F.entry_list_extend (F.args_list_extend_2 _ _)
    (AutoSeq1.list_extend_list_list_0 l i1.toArray n1 b i2.toArray n2 hlong (by rw [List.size_toArray]; omega) (by omega)) ⟨g1, g2, ?_⟩
  exact ⟨.non, _, I.lset (its' := i1 ++ i2) hH g1 (by simp) (r1.append r2) (by rw [List.length_append]; omega), rfl, q⟩
theorem omExtend : OM C W rExtendR oExtend := by
  intro μ S H x dx xs ds σ Q R rx rs h
  unfold oExtend at h
  split at h
  · obtain ⟨y, rfl, ry⟩ := rs.l1
    split at h
    · rename_i es e0
      obtain ⟨b, us, rfl, hb, rb⟩ := ry.listR R e0
      obtain ⟨n, a, ds, vs, rfl, rfl, hm, e0, h1, h2, h⟩ := mutL_good R rx h
      split at h
      · rename_i hz
        exact ⟨a, b, vs, us, rfl, rfl, h1, .inl hb, by rw [← h2.len, ← rb.len]; exact hz, put_good (d := .non) R hm (h2.append rb) rfl h⟩
      · exact h.elim
    · exact h.elim
  · exact h.elim
theorem RelDs.dropLast {K : PySem.W.Frag} {μ : Mu} {H : Hp} {ds : List D} {vs : List V} (r : RelDs K μ H ds vs) : RelDs K μ H ds.dropLast vs.dropLast := by
  rw [List.dropLast_eq_take, List.dropLast_eq_take, ← r.len]; exact r.take _
theorem omPop : OM C W (fun x vs H Q => rPop x vs H Q ∨ rPopAt x vs H Q) oPop := by
  intro μ S H x dx xs ds σ Q R rx rs h
  unfold oPop at h
  split at h
  · have rs : xs = [] := rs
    subst rs
    obtain ⟨n, a, ds, vs, rfl, rfl, hm, e0, h1, h2, h⟩ := mutL_good R rx h
    split at h
    · rename_i d e1
      obtain ⟨y, e2, ry⟩ := h2.get e1
      exact .inl ⟨a, vs, y, rfl, rfl, h1, by rw [← h2.len]; exact e2, put_good R hm h2.dropLast ry h⟩
    · exact h.elim
  · rename_i i
    obtain ⟨y, rfl, ry⟩ := rs.l1
    cases (show y = .int i from ry)
    obtain ⟨n, a, ds, vs, rfl, rfl, hm, e0, h1, h2, h⟩ := mutL_good R rx h
    split at h
    · rename_i hi
      split at h
      · rename_i k e1
        split at h
        · rename_i d e2
          obtain ⟨y, e3, ry⟩ := h2.get e2
          exact .inr ⟨a, vs, i, k, y, rfl, rfl, h1, hi.1, hi.2, by rw [← h2.len]; exact e1, e3, put_good R hm (h2.erase k) ry h⟩
        · exact h.elim
      · exact h.elim
    · exact h.elim
  · exact h.elim
theorem omClear : OM C W rClear oClear := by
  intro μ S H x dx xs ds σ Q R rx rs h
  unfold oClear at h
  split at h
  · have rs : xs = [] := rs
    subst rs
    obtain ⟨n, a, ds, vs, rfl, rfl, hm, e0, h1, h2, h⟩ := mutL_good R rx h
    exact ⟨a, vs, rfl, rfl, h1, put_good (d := .non) R hm (ds := []) (vs := []) rfl rfl h⟩
  · exact h.elim
theorem idx_first {ns : List Int} {k : Int} (h : k ∈ ns) : ns[ns.idxOf k]? = some k ∧ ∀ m : Nat, m < ns.idxOf k → ns[m]? ≠ some k := by
  induction ns with
  | nil => cases h
  | cons n ns ih =>
    by_cases e : n = k
    · subst e
      simp
    · have hk : k ∈ ns := by
        rcases List.mem_cons.mp h with q | q
        · exact absurd q.symm e
        · exact q
      obtain ⟨i1, i2⟩ := ih hk
      have e' : (n :: ns).idxOf k = ns.idxOf k + 1 := by
        rw [List.idxOf_cons, show (n == k) = false by simp [e]]; rfl
      rw [e']
      refine ⟨by simpa using i1, fun m hm => ?_⟩
      cases m with
      | zero => simp [e]
      | succ m => simpa using i2 m (by omega)
theorem omRemove : OM C W rRemI oRemove := by
  intro μ S H x dx xs ds σ Q R rx rs h
  unfold oRemove at h
  split at h
  · rename_i k
    obtain ⟨y, rfl, ry⟩ := rs.l1
    cases (show y = .int k from ry)
    obtain ⟨n, a, ds, vs, rfl, rfl, hm, e0, h1, h2, h⟩ := mutL_good R rx h
    split at h
    · rename_i ns e1
      split at h
      · rename_i hk
        obtain ⟨q1, q2⟩ := ints_of h2 e1
        subst q1
        exact ⟨a, ns, k, ns.idxOf k, rfl, rfl, h1, (idx_first hk).1, (idx_first hk).2, put_good (d := .non) R hm (RelDs.ints _) rfl h⟩
      · exact h.elim
    · exact h.elim
  · exact h.elim
theorem omCount (o : Ok C X W) : OM C W (rCntI X.K) oCount := by
  intro μ S H x dx xs ds σ Q R rx rs h
  unfold oCount at h
  split at h
  · rename_i k
    obtain ⟨y, rfl, ry⟩ := rs.l1
    cases (show y = .int k from ry)
    split at h
    · rename_i ns e0
      cases e1 : getL S dx with
      | none => rw [e1] at e0; cases e0
      | some ds =>
        rw [e1] at e0
        obtain ⟨t, vs, rfl, ht, rr⟩ := rx.list R e1
        obtain ⟨q1, q2⟩ := ints_of rr e0
        subst q1
        exact ⟨t, ns, k, rfl, rfl, by rw [o.K]; exact ht, h.ok .refl R rfl⟩
    · exact h.elim
  · exact h.elim
theorem lm0 {name : Str} {id : String} {r : V → List V → Hp → VK → Prop} {op : D → List D → HS → Res D} (slot : Slot "list" name id) (hty : typeOf (.builtin id) = pure (.type "method_descriptor")) (hm : MtR X id r) (hv : OM C W r op) (o : Ok C X W) (ho : LE C X W ob f)
    (hbase : attributeBase ob name X.env (eval ob X.env) = eval ob X.env := by rfl) (hline : (apos.endLine == cpos.line) = true := by rfl) : LE C X W (.Call (.Attribute ob name apos) [] [] cpos) (mth f anil op) :=
  PE.imp (pe_bm0 PySem.F.plainAttrs_list slot hty hm ho hbase hline) fun σ H Q h => Lift.k h fun sd x H1 μ1 S1 dx R1 rs1 rx h1 => by
    split at h1
    · rename_i ds e0
      obtain ⟨t, vs, rfl, ht, rr⟩ := rx.list R1 e0
      exact ⟨.inl ⟨rfl, _, by rw [o.K]; exact ht⟩, hv μ1 S1 H1 _ dx [] [] σ Q R1 rx rfl h1⟩
    · exact h1.elim
theorem lm {name : Str} {id : String} {r : V → List V → Hp → VK → Prop} {op : D → List D → HS → Res D} (slot : Slot "list" name id) (hty : typeOf (.builtin id) = pure (.type "method_descriptor")) (hm : MtR X id r) (hv : OM C W r op) (o : Ok C X W) (ho : LE C X W ob f) (ha : LA C X W (e :: es) g)
    (hbase : attributeBase ob name X.env (eval ob X.env) = eval ob X.env := by rfl)
    (hfew : ((backTo cpos (starEach (e :: es) X.env)).all (fun x => !x.1) && (backToKw cpos (keywordEach [] X.env)).all (fun x => x.1.isSome)
      && decide ((e :: es).length + ([] : List Keyword).length + (if ([] : List Keyword).isEmpty then 0 else 1) < 30)) = true := by rfl)
    (hline : (apos.endLine == cpos.line) = true := by rfl) (hs : starEach (e :: es) X.env = (false, eval e X.env) :: starEach es X.env := by rfl) (hplain : (backTo cpos (starEach es X.env)).any (·.1) = false := by rfl) : LE C X W (.Call (.Attribute ob name apos) (e :: es) [] cpos) (mth f g op) :=
  PE.imp (pe_bm PySem.F.plainAttrs_list slot hty hm ho ha hbase hfew hline hs hplain) fun σ H Q h => Lift.k h fun sd x H1 μ1 S1 dx R1 rs1 rx h1 => by
    split at h1
    · rename_i ds e0
      obtain ⟨t, vs, ex, ht, rr⟩ := rx.list R1 e0
      refine ⟨by subst ex; exact .inl ⟨rfl, _, by rw [o.K]; exact ht⟩, ?_⟩
      refine Lift.step _ (Stable.rel (d := dx) (v := x)) R1 rs1 rx h1 fun ys H2 μ2 S2 dy g2 R2 rs2 rx2 ry h2 => ?_
      exact hv μ2 S2 H2 x dx ys dy σ Q R2 rx2 ry h2
    · exact h1.elim
end

/-! ### isinstance -/
def tyN (s : HS) : D → Option String
  | .non => some "NoneType"
  | .bl _ => some "bool"
  | .int _ => some "int"
  | .str _ => some "str"
  | .tup _ => some "tuple"
  | .lst _ => some "list"
  | .scr _ => some "list"
  | .ref n => match s.h n with
    | some (.lst _) => some "list"
    | some (.dict _) => some "dict"
    | _ => none
def isT (t T : String) : Bool := t == T || (t == "bool" && T == "int")
def oIsi (Ts : List String) : D → HS → Res D := fun x s => match tyN s x with
  | some t => .ok (.bl (Ts.any (isT t))) s
  | none => .bad
section
variable {C : Ct} {X : Cx} {W : WX} {a b e eT : Expr} {es : List Expr} {f : SE} {g : SA} {pos p : Pos}
theorem tyN_rel {μ : Mu} {S : HS} {H : Hp} {d : D} {v : V} {t : String} (o : Ok C X W) (R : Rep C μ S H) (r : RelD C.K μ H d v) (e : tyN S d = some t) : TyX X.K H v (.type t) ∧ t ∈ ["NoneType", "bool", "int", "str", "tuple", "list", "dict"] := by
  cases d with
  | non => cases e; cases (show v = .non from r); exact ⟨.base .non, by simp⟩
  | bl b => cases e; cases (show v = .bl b from r); exact ⟨.base (.bl b), by simp⟩
  | int b => cases e; cases (show v = .int b from r); exact ⟨.base (.int b), by simp⟩
  | str b => cases e; cases (show v = .str b from r); exact ⟨.base (.str b), by simp⟩
  | tup ds =>
    cases e
    obtain ⟨a, vs, rfl, t, _⟩ := r
    refine ⟨?_, by simp⟩
    rw [o.K]
    rcases t with (t | ⟨ob, t⟩) | ⟨ob, its, n, t, c, _⟩
    · exact .base (.tup t)
    · exact .fTuple t
    · exact .kTuple t c
  | lst ds =>
    cases e
    obtain ⟨a, vs, rfl, t, _⟩ := r
    exact ⟨.base (.lst t), by simp⟩
  | scr ds =>
    cases e
    obtain ⟨a, vs, rfl, t, _⟩ := r
    refine ⟨?_, by simp⟩
    rcases t with ⟨t | ⟨ob, t⟩, _⟩ | ⟨ob, its, n, t, c, _⟩
    · exact .base (.lst t)
    · exact .base (.frz t)
    · rw [o.K]; exact .kList t c
  | ref n =>
    obtain ⟨a, rfl, hm⟩ := r
    obtain ⟨ob, e1, q⟩ := R.obj n a hm
    simp only [tyN, e1] at e
    cases ob with
    | lst ds => cases e; obtain ⟨vs, h1, _⟩ := q; exact ⟨.base (.lst h1), by simp⟩
    | dict ds => cases e; obtain ⟨vs, h1, _⟩ := q; exact ⟨.base (.dK h1), by simp⟩
    | mix _ _ => cases e
    | exn _ => cases e
    | ins _ _ => cases e
theorem lisi (T : String) (o : Ok C X W) (hg : Gl X "isinstance") (hm : X.mg "isinstance" = none) (ha : LE C X W e f) (hT : PE X eT (tC (.ty T))) (hk : (["NoneType", "bool", "int", "str", "tuple", "list", "dict"].all fun t => kitB t T == some (isT t T)) = true := by decide +kernel)
    (he : starEach [e, eT] X.env = (false, eval e X.env) :: starEach [eT] X.env := by rfl) (he2 : starEach [eT] X.env = (false, eval eT X.env) :: starEach [] X.env := by rfl) (hpl : (backTo pos (starEach [eT] X.env)).any (·.1) = false := by rfl) : LE C X W (.Call (.Name "isinstance" p) [e, eT] [] pos) (b1 f (oIsi [T])) :=
  PE.imp (pe_callB call_isi hg hm (by decide +kernel) (pa_cons ha (pa_cons hT pa_nil he2) he) (by decide) (by decide) he hpl) fun σ H Q h => Lift.k h fun sd x H1 μ1 S1 dx R1 rs1 rx h1 => by
    unfold oIsi at h1
    split at h1
    · rename_i t e0
      obtain ⟨q1, q2⟩ := tyN_rel o R1 rx e0
      have hk' := List.all_eq_true.mp hk t q2
      refine ⟨x, .ty T, .type t, .type T, isT t T, rfl, .ty T, q1, kit_ty (by simpa using hk'), ?_⟩
      have e : ([T].any (isT t)) = isT t T := by simp
      rw [e] at h1
      exact h1.ok .refl R1 rfl
    · exact h1.elim
theorem lisi2 (T U : String) {x1 : Nat} {p2 : Pos} {eU : Expr} (o : Ok C X W) (hg : Gl X "isinstance") (hm : X.mg "isinstance" = none) (ha : LE C X W e f) (hT : PE X eT (tC (.ty T))) (hU : PE X eU (tC (.ty U))) (hk : (["NoneType", "bool", "int", "str", "tuple", "list", "dict"].all fun t => kitB t T == some (isT t T) && kitB t U == some (isT t U)) = true := by decide +kernel)
    (he : starEach [e, .Tuple [eT, eU] x1 p2] X.env = (false, eval e X.env) :: starEach [.Tuple [eT, eU] x1 p2] X.env := by rfl) (he2 : starEach [.Tuple [eT, eU] x1 p2] X.env = (false, eval (.Tuple [eT, eU] x1 p2) X.env) :: starEach [] X.env := by rfl) (hpl : (backTo pos (starEach [.Tuple [eT, eU] x1 p2] X.env)).any (·.1) = false := by rfl)
    (hs1 : starEach [eT, eU] X.env = (false, eval eT X.env) :: starEach [eU] X.env := by rfl) (hs2 : starEach [eU] X.env = (false, eval eU X.env) :: starEach [] X.env := by rfl) : LE C X W (.Call (.Name "isinstance" p) [e, .Tuple [eT, eU] x1 p2] [] pos) (b1 f (oIsi [T, U])) :=
  PE.imp (pe_callB call_isiT hg hm (by decide +kernel) (pa_cons ha (pa_cons (pe_tup (pa_cons hT (pa_cons hU pa_nil hs2) hs1)) pa_nil he2) he) (by decide) (by decide) he hpl) fun σ H Q h => Lift.k h fun sd x H1 μ1 S1 dx R1 rs1 rx h1 => by
    unfold oIsi at h1
    split at h1
    · rename_i t e0
      obtain ⟨q1, q2⟩ := tyN_rel o R1 rx e0
      have hk' := List.all_eq_true.mp hk t q2
      rw [Bool.and_eq_true] at hk'
      refine ⟨(show 2 ≤ sizeLine by decide), fun tp htp => ?_⟩
      have g := G.new (u := .tup [V.ty T, V.ty U]) R1 htp
      have R2 := R1.new (u := .tup [V.ty T, V.ty U]) htp
      obtain ⟨q3, _⟩ := tyN_rel o R2 (RelD.mono g _ _ rx) e0
      refine ⟨x, tp, [.ty T, .ty U], .type t, [.type T, .type U], ([T, U].any (isT t)), rfl, upd_same, .cons (.ty T) (.cons (.ty U) .nil), q3, ?_, h1.ok g R2 rfl⟩
      refine kitAny_cons (kit_ty (by simpa using hk'.1)) (fun hb => ?_) (fun hb => by simp [hb])
      refine kitAny_cons (kit_ty (by simpa using hk'.2)) (fun hb2 => by simp only [List.any_cons, hb, hb2, List.any_nil]; rfl) (fun hb2 => by simp [hb2])
    · exact h1.elim
end
end DL
end
section
/-! DL5: statements, loops, calls, defs. -/
namespace DL
open PySem PySem.Spec PyProof.Rows L2

inductive SR where
  | nx (sd : Sl) (s : HS) | rt (d : D) (s : HS) | bk (sd : Sl) (s : HS) | ct (sd : Sl) (s : HS) | exc (c : String) (sd : Sl) (s : HS) | bad
abbrev SS := Sl → HS → SR
def Res.bs {α : Type} : Res α → Sl → (α → HS → SR) → SR
  | .ok a s, _, k => k a s
  | .exc c s, sd, _ => .exc c sd s
  | .bad, _, _ => .bad
@[simp] theorem bs_ok {α : Type} (a : α) (s : HS) (sd : Sl) (k : α → HS → SR) : (Res.ok a s).bs sd k = k a s := (rfl)
@[simp] theorem bs_exc {α : Type} (c : String) (s : HS) (sd : Sl) (k : α → HS → SR) : (Res.exc c s : Res α).bs sd k = .exc c sd s := (rfl)
@[simp] theorem bs_bad {α : Type} (sd : Sl) (k : α → HS → SR) : (Res.bad : Res α).bs sd k = .bad := (rfl)
def SR.bind : SR → (Sl → HS → SR) → SR
  | .nx sd s, k => k sd s
  | .rt d s, _ => .rt d s
  | .bk sd s, _ => .bk sd s
  | .ct sd s, _ => .ct sd s
  | .exc c sd s, _ => .exc c sd s
  | .bad, _ => .bad
@[simp] theorem sbind_nx (sd : Sl) (s : HS) (k : Sl → HS → SR) : (SR.nx sd s).bind k = k sd s := (rfl)
@[simp] theorem sbind_rt (d : D) (s : HS) (k : Sl → HS → SR) : (SR.rt d s).bind k = .rt d s := (rfl)
@[simp] theorem sbind_bk (d : Sl) (s : HS) (k : Sl → HS → SR) : (SR.bk d s).bind k = .bk d s := (rfl)
@[simp] theorem sbind_ct (d : Sl) (s : HS) (k : Sl → HS → SR) : (SR.ct d s).bind k = .ct d s := (rfl)
@[simp] theorem sbind_exc (c : String) (d : Sl) (s : HS) (k : Sl → HS → SR) : (SR.exc c d s).bind k = .exc c d s := (rfl)
@[simp] theorem sbind_bad (k : Sl → HS → SR) : SR.bad.bind k = .bad := (rfl)
section
def GoodS (C : Ct) (W : WX) (Z : Ends) (μ : Mu) (H : Hp) : SR → Prop
  | .nx sd S => ∀ μ' H' σ, G C.K μ H μ' H' → Rep C μ' S H' → RelS C.K μ' H' sd σ → Z.nx σ H'
  | .rt d S => ∀ μ' H' v, G C.K μ H μ' H' → Rep C μ' S H' → RelD C.K μ' H' d v → Z.rt v H'
  | .bk sd S => ∀ μ' H' σ, G C.K μ H μ' H' → Rep C μ' S H' → RelS C.K μ' H' sd σ → Z.bk σ H'
  | .ct sd S => ∀ μ' H' σ, G C.K μ H μ' H' → Rep C μ' S H' → RelS C.K μ' H' sd σ → Z.ct σ H'
  | .exc c sd S => ∀ μ' H' σ, G C.K μ H μ' H' → Rep C μ' S H' → RelS C.K μ' H' sd σ → W (.ref (C.cA c)) none σ H'
  | .bad => False
def LiftS (C : Ct) (W : WX) (f : SS) : TS := fun Z σ H => ∃ μ sd S, Rep C μ S H ∧ RelS C.K μ H sd σ ∧ GoodS C W Z μ H (f sd S)
variable {C : Ct} {W : WX}
theorem GoodS.mono {Z : Ends} {μ μ' : Mu} {H H' : Hp} {r : SR} (g : G C.K μ H μ' H') (h : GoodS C W Z μ H r) : GoodS C W Z μ' H' r := by
  cases r with
  | bad => exact h
  | _ => exact fun m k b g' R r => h m k b (g.trans g') R r
theorem LiftS.step {α β : Type} {rel : Mu → Hp → α → β → Prop} {f : Sl → HS → Res α} {k : α → HS → SR} {μ : Mu} {sd : Sl} {S : HS} {σ : L2.St} {H : Hp} {Z : Ends} {Q1 : β → Hp → Prop}
    (P : Mu → Hp → Prop) (hP : Stable C.K P) (R : Rep C μ S H) (rs : RelS C.K μ H sd σ) (p : P μ H) (h : GoodS C W Z μ H ((f sd S).bs sd k))
    (hk : ∀ b H1 μ1 S1 a, G C.K μ H μ1 H1 → Rep C μ1 S1 H1 → RelS C.K μ1 H1 sd σ → P μ1 H1 → rel μ1 H1 a b → GoodS C W Z μ1 H1 (k a S1) → Q1 b H1) : Lift C W rel f σ H Q1 := by
  refine ⟨μ, sd, S, R, rs, ?_⟩
  cases e : f sd S with
  | ok a S1 =>
    rw [e] at h
    exact fun μ1 H1 b g R1 r => hk b H1 μ1 S1 a g R1 (rs.mono g) (hP _ _ _ _ g p) r (GoodS.mono g h)
  | exc c S1 => rw [e] at h; exact fun μ1 H1 g R1 => h μ1 H1 σ g R1 (rs.mono g)
  | bad => rw [e] at h; exact h
theorem LiftS.k {α β : Type} {rel : Mu → Hp → α → β → Prop} {f : Sl → HS → Res α} {k : Sl → α → HS → SR} {σ : L2.St} {H : Hp} {Z : Ends} {Q1 : β → Hp → Prop} (h : LiftS C W (fun sd s => (f sd s).bs sd (k sd)) Z σ H)
    (hk : ∀ sd b H1 μ1 S1 a, Rep C μ1 S1 H1 → RelS C.K μ1 H1 sd σ → rel μ1 H1 a b → GoodS C W Z μ1 H1 (k sd a S1) → Q1 b H1) : Lift C W rel f σ H Q1 := by
  obtain ⟨μ, sd, S, R, rs, h⟩ := h
  exact LiftS.step _ Stable.true R rs trivial h fun x H1 μ1 S1 dx g1 R1 rs1 _ rx h1 => hk sd x H1 μ1 S1 dx R1 rs1 rx h1
theorem GoodS.nx {Z : Ends} {μ μ' : Mu} {H H' : Hp} {sd : Sl} {σ : L2.St} {S : HS} (h : GoodS C W Z μ H (.nx sd S)) (g : G C.K μ H μ' H') (R : Rep C μ' S H') (r : RelS C.K μ' H' sd σ) : Z.nx σ H' := h μ' H' σ g R r
theorem GoodS.rt {Z : Ends} {μ μ' : Mu} {H H' : Hp} {d : D} {v : V} {S : HS} (h : GoodS C W Z μ H (.rt d S)) (g : G C.K μ H μ' H') (R : Rep C μ' S H') (r : RelD C.K μ' H' d v) : Z.rt v H' := h μ' H' v g R r
theorem LiftS.here {f : SS} {Z : Ends} {μ : Mu} {sd : Sl} {S : HS} {σ : L2.St} {H : Hp} (R : Rep C μ S H) (rs : RelS C.K μ H sd σ) (h : GoodS C W Z μ H (f sd S)) : LiftS C W f Z σ H := ⟨μ, sd, S, R, rs, h⟩
end
section
variable (C : Ct) (X : Cx) (W : WX)
def LS (st : Stmt) (f : SS) : Prop := PS X st (LiftS C W f)
def LSs (st : List Stmt) (f : SS) : Prop := PSs X st (LiftS C W f)
end
def skip : SS := fun sd s => .nx sd s
def seq (f g : SS) : SS := fun sd s => (f sd s).bind g
def exS (f : SE) : SS := fun sd s => (f sd s).bs sd fun _ s1 => .nx sd s1
def setS (i : Nat) (f : SE) : SS := fun sd s => (f sd s).bs sd fun d s1 => .nx (sd.set i (some d)) s1
def retS (f : SE) : SS := fun sd s => (f sd s).bs sd fun d s1 => .rt d s1
def retN : SS := fun _ s => .rt .non s
def brkS : SS := fun sd s => .bk sd s
def cntS : SS := fun sd s => .ct sd s
def ifS (c : ST) (f g : SS) : SS := fun sd s => (c sd s).bs sd fun b s1 => if b = true then f sd s1 else g sd s1
def augS (i : Nat) (f : SE) (op : D → D → HS → Res D) : SS := fun sd s => (v_ i sd s).bs sd fun x s0 => (f sd s0).bs sd fun d s1 => (op x d s1).bs sd fun z s2 => .nx (sd.set i (some z)) s2
def setAll : List Nat → List D → Sl → Sl
  | i :: is, d :: ds, sd => setAll is ds (sd.set i (some d))
  | _, _, sd => sd
def unpS (is : List Nat) (f : SE) : SS := fun sd s => (f sd s).bs sd fun x s1 => match x with
  | .tup ds => if ds.length = is.length then .nx (setAll is ds sd) s1 else .bad
  | _ => .bad
def unpL (is : List Nat) (f : SE) : SS := fun sd s => (f sd s).bs sd fun x s1 => match getL s1 x with
  | some ds => if ds.length = is.length then .nx (setAll is ds sd) s1 else .bad
  | none => .bad
def oSet (o i v : D) (s : HS) : Option HS := match o, i with
  | .ref n, .int k => match s.h n with
    | some (.lst ds) => (ixN ds.length k).map fun j => s.put n (.lst (ds.set j v))
    | _ => none
  | _, _ => none
def setIx (o i v : SE) : SS := fun sd s => (v sd s).bs sd fun d s1 => (o sd s1).bs sd fun x s2 => (i sd s2).bs sd fun k s3 => match oSet x k d s3 with
  | some s4 => .nx sd s4
  | none => .bad
def oGetF (c : String) (f : Str) (x : D) (s : HS) : Res D := match x with
  | .ref n => match s.h n with
    | some (.ins c' fs) => if c' = c then match fs.lookup f with
        | some d => .ok d s
        | none => .bad
      else .bad
    | _ => .bad
  | _ => .bad
def fld (c : String) (f : Str) (o : SE) : SE := b1 o (oGetF c f)
def setF (c : String) (f : Str) (o v : SE) : SS := fun sd s => (v sd s).bs sd fun d s1 => (o sd s1).bs sd fun x s2 => match x with
  | .ref n => match s2.h n with
    | some (.ins c' fs) => if c' = c ∧ fs.length < 1000 then .nx sd (s2.put n (.ins c (putD f d fs))) else .bad
    | _ => .bad
  | _ => .bad
section
variable {C : Ct} {X : Cx} {W : WX} {a b e c o i : Expr} {st : Stmt} {rest ba bb : List Stmt} {f g fo fi : SE} {ft : ST} {sf sg : SS} {pos pos' : Pos}
theorem snil : LSs C X W [] skip := PSs.imp pss_nil fun Z σ H ⟨μ, sd, S, R, rs, h⟩ => h.nx .refl R rs
theorem scons (h1 : LS C X W st sf) (h2 : LSs C X W rest sg) : LSs C X W (st :: rest) (seq sf sg) := PSs.imp (pss_cons h1 h2) fun Z σ H ⟨μ, sd, S, R, rs, h⟩ => by
  refine ⟨μ, sd, S, R, rs, ?_⟩
  unfold seq at h
  cases e : sf sd S with
  | nx sd' S' => rw [e] at h; exact fun m k b g' R r => ⟨m, sd', S', R, r, GoodS.mono g' h⟩
  | bad => rw [e] at h; exact h
  | rt d s => rw [e] at h; exact h
  | bk d s => rw [e] at h; exact h
  | ct d s => rw [e] at h; exact h
  | exc c d s => rw [e] at h; exact h
theorem sone (h1 : LS C X W st sf) : LSs C X W [st] sf := pss_one h1
theorem spass : LS C X W (.Pass pos) skip := PS.imp ps_pass fun Z σ H ⟨μ, sd, S, R, rs, h⟩ => h.nx .refl R rs
theorem sbrk : LS C X W (.Break pos) brkS := PS.imp ps_break fun Z σ H ⟨μ, sd, S, R, rs, h⟩ => h μ H σ .refl R rs
theorem scnt : LS C X W (.Continue pos) cntS := PS.imp ps_continue fun Z σ H ⟨μ, sd, S, R, rs, h⟩ => h μ H σ .refl R rs
theorem sdoc {x : Str} {j : Nat} : LS C X W (.Expr (.Constant (.str x) j pos) pos') skip := PS.imp ps_doc fun Z σ H ⟨μ, sd, S, R, rs, h⟩ => h.nx .refl R rs
theorem sexpr (he : LE C X W e f) (hs : swapsWith e none pos.line X.env = pure false := by rfl) : LS C X W (.Expr e pos) (exS f) := PS.imp (ps_expr he hs) fun Z σ H h => LiftS.k h fun sd x H1 μ1 S1 dx R1 rs1 rx h1 => h1.nx .refl R1 rs1
theorem sset {i : Nat} {x : Str} {pos' : Pos} (hN : X.N.Nodup) (hi : X.N[i]? = some x) (hx : Loc X.env.scope x) (he : LE C X W e f) (hs : swapsWith e (some (.Name x pos')) pos.line X.env = pure false := by rfl) (hf : X.fn x = true ∨ X.env.scope.names.lookup x = some .local := by first | exact .inl rfl | exact .inr rfl | assumption) :
    LS C X W (.Assign [.Name x pos'] e pos) (setS i f) := PS.imp (ps_set hN hi hx he hs hf) fun Z σ H h => LiftS.k h fun sd x H1 μ1 S1 dx R1 rs1 rx h1 => h1.nx .refl R1 (rs1.set rx _)
theorem sret (he : LE C X W e f) : LS C X W (.Return (some e) pos) (retS f) := PS.imp (ps_ret he) fun Z σ H h => LiftS.k h fun sd x H1 μ1 S1 dx R1 rs1 rx h1 => h1.rt .refl R1 rx
theorem sretn : LS C X W (.Return none pos) retN := PS.imp ps_retN fun Z σ H ⟨μ, sd, S, R, rs, h⟩ => h.rt .refl R rfl
theorem sif (hc : LT C X W c ft) (ha : LSs C X W ba sf) (hb : LSs C X W bb sg) : LS C X W (.If c ba bb pos) (ifS ft sf sg) := PS.imp (ps_if hc ha hb) fun Z σ H h => LiftS.k h fun sd x H1 μ1 S1 dx R1 rs1 rx h1 => by
  cases (show dx = x from rx)
  cases x
  · exact iteF (.here R1 rs1 h1)
  · exact iteT (.here R1 rs1 h1)
theorem saug {i : Nat} {x : Str} {op : Operator} {o2 : D → D → HS → Res D} {r : R2} {pos' : Pos} (hN : X.N.Nodup) (hi : X.N[i]? = some x) (hx : Loc X.env.scope x) (ho : PIp X op r) (hv : O2 C W r o2) (he : LE C X W e f) (hf : X.fn x = true ∨ X.env.scope.names.lookup x = some .local := by first | exact .inl rfl | exact .inr rfl | assumption) :
    LS C X W (.AugAssign (.Name x pos') op e pos) (augS i f o2) := PS.imp (ps_aug hN hi hx he ho hf) fun Z σ H ⟨μ, sd, S, R, rs, h⟩ => by
  unfold augS v_ at h
  split at h
  · rename_i d e0
    obtain ⟨v, e1, r1⟩ := rs.at_ i d e0
    refine ⟨v, e1, ?_⟩
    refine LiftS.step _ (Stable.rel (d := d) (v := v)) R rs r1 h fun y H1 μ1 S1 dy g1 R1 rs1 rd ry h1 => ?_
    refine hv μ1 S1 H1 v y d dy σ _ R1 rd ry ?_
    cases e2 : o2 d dy S1 with
    | ok z S2 => rw [e2] at h1; exact fun m k b g' R2 r2 => h1.nx g' R2 ((rs1.mono g').set r2 _)
    | exc c S2 => rw [e2] at h1; exact fun m k g' R2 => h1 m k σ g' R2 (rs1.mono g')
    | bad => rw [e2] at h1; exact h1
  · exact h.elim
theorem o2ip {f : Int → Int → Int} : O2 C W (ipI f) (opI (fun _ _ => True) fun i j => .int (f i j)) := by
  intro μ S H x y dx dy σ Q R rx ry h
  obtain ⟨i, j, h1, h2, _, h3⟩ := o2I (C := C) (W := W) (P := fun _ _ => True) (gd := fun i j => D.int (f i j)) (gv := fun i j => V.int (f i j)) (fun _ _ _ _ => rfl) μ S H x y dx dy σ Q R rx ry h
  exact ⟨i, j, h1, h2, h3⟩
/-- targets that are names -/
theorem gAll {vs : List V} {ds : List D} : ∀ {is : List Nat} {us : List V} {ds : List D} {σ : L2.St} {sd : Sl} {μ : Mu} {H : Hp} {Z : Ends}, RelDs C.K μ H ds us → ds.length = is.length → RelS C.K μ H sd σ → (∀ σ', RelS C.K μ H (setAll is ds sd) σ' → Z.nx σ' H) →
    (is.foldr (fun i t => gCons (gName i) t) gNil) us σ H Z.nx
  | [], us, ds, σ, sd, μ, H, Z, r, hl, rs, k => by
    have hd : ds = [] := List.length_eq_zero_iff.mp hl
    subst hd
    exact ⟨r, k σ rs⟩
  | i :: is, us, ds, σ, sd, μ, H, Z, r, hl, rs, k => by
    cases ds with
    | nil => simp at hl
    | cons d ds =>
      obtain ⟨v, u, rfl, r1, r2⟩ := r
      exact ⟨v, u, rfl, gAll (vs := []) (ds := []) r2 (by simpa using hl) (rs.set r1 i) k⟩
theorem sunp {es : List Expr} {k : Nat} {is : List Nat} {pt : Pos} (ok : Ok C X W) (he : LE C X W e f) (h : PGs X es (is.foldr (fun i t => gCons (gName i) t) gNil)) (hn : (assignEach es X.env).length = is.length := by rfl) (hst : (assignEach es X.env).findIdx? (·.1) = none := by rfl)
    (hs : swapsWithSole [.Tuple es k pt] e pos.line X.env = pure false := by rfl) (hw : swappedStores [.Tuple es k pt] e X.env = pure none := by rfl) (h1 : (assignEach [.Tuple es k pt] X.env).map (·.2) = [assign (.Tuple es k pt) X.env] := by rfl) :
    LS C X W (.Assign [.Tuple es k pt] e pos) (unpS is f) := PS.imp (ps_asg he (pg_tup ok.calm h hn hst) hs hw h1) fun Z σ H h => LiftS.k h fun sd x H1 μ1 S1 dx R1 rs1 rx h1 => by
  split at h1
  · rename_i ds
    obtain ⟨t, vs, rfl, ht, rr⟩ := rx
    rw [← ok.K] at ht
    split at h1
    · rename_i hl
      exact ⟨t, vs, rfl, ht, by rw [← rr.len, hl], gAll (vs := []) (ds := []) rr hl rs1 fun σ' r' => h1.nx .refl R1 r'⟩
    · exact h1.elim
  · exact h1.elim
theorem sunpL {es : List Expr} {k : Nat} {is : List Nat} {pt : Pos} (ok : Ok C X W) (he : LE C X W e f) (h : PGs X es (is.foldr (fun i t => gCons (gName i) t) gNil)) (hn : (assignEach es X.env).length = is.length := by rfl) (hst : (assignEach es X.env).findIdx? (·.1) = none := by rfl)
    (hs : swapsWithSole [.Tuple es k pt] e pos.line X.env = pure false := by rfl) (hw : swappedStores [.Tuple es k pt] e X.env = pure none := by rfl) (h1 : (assignEach [.Tuple es k pt] X.env).map (·.2) = [assign (.Tuple es k pt) X.env] := by rfl) :
    LS C X W (.Assign [.Tuple es k pt] e pos) (unpL is f) := PS.imp (ps_asg he (pg_lst ok.calm h hn hst) hs hw h1) fun Z σ H h => LiftS.k h fun sd x H1 μ1 S1 dx R1 rs1 rx h1 => by
  split at h1
  · rename_i ds e0
    obtain ⟨t, vs, rfl, ht, rr⟩ := rx.list R1 e0
    split at h1
    · rename_i hl
      exact ⟨t, vs, rfl, by rw [ok.K]; exact ht, by rw [← rr.len, hl], gAll (vs := []) (ds := []) rr hl rs1 fun σ' r' => h1.nx .refl R1 r'⟩
    · exact h1.elim
  · exact h1.elim
theorem ssub (ho : LE C X W o fo) (hi : LE C X W i fi) (he : LE C X W e f) (ha : ∀ v, assign (.Subscript o i pos') X.env v = (do
      let ov ← holding [v] (eval o X.env)
      let iv ← holding [v, ov] (eval i X.env)
      standAt pos'
      holding [v, ov, iv] (setItem ov iv v)
      release [v, ov, iv] []) := by intro _; rfl)
    (hs : swapsWithSole [.Subscript o i pos'] e pos.line X.env = pure false := by rfl) (hw : swappedStores [.Subscript o i pos'] e X.env = pure none := by rfl) (h1 : (assignEach [.Subscript o i pos'] X.env).map (·.2) = [assign (.Subscript o i pos') X.env] := by rfl) :
    LS C X W (.Assign [.Subscript o i pos'] e pos) (setIx fo fi f) := PS.imp (ps_asg he (pg_sub ho hi set_list ha) hs hw h1) fun Z σ H ⟨μ, sd, S, R, rs, h⟩ => by
  refine LiftS.step _ Stable.true R rs trivial h fun x H1 μ1 S1 dx g1 R1 rs1 _ rx h1 => ?_
  refine LiftS.step _ (Stable.rel (d := dx) (v := x)) R1 rs1 rx h1 fun y H2 μ2 S2 dy g2 R2 rs2 rx2 ry h2 => ?_
  refine LiftS.step _ (Stable.and (Stable.rel (d := dx) (v := x)) (Stable.rel (d := dy) (v := y))) R2 rs2 ⟨rx2, ry⟩ h2 fun z H3 μ3 S3 dz g3 R3 rs3 rxy rz h3 => ?_
  split at h3
  · rename_i s4 e4
    unfold oSet at e4
    split at e4
    · rename_i n k
      split at e4
      · rename_i ds e5
        obtain ⟨ad, rfl, hm⟩ := rxy.2
        cases (show z = .int k from rz)
        obtain ⟨ob, e6, q⟩ := R3.obj n ad hm
        rw [e5] at e6; cases e6
        obtain ⟨vs, q1, q2⟩ := q
        cases ej : ixN ds.length k with
        | none => rw [ej] at e4; cases e4
        | some j =>
          rw [ej] at e4; cases e4
          have gg := G.put (u := .lst (vs.set j x)) R3 hm
          exact ⟨ad, vs, k, j, rfl, rfl, q1, by rw [← q2.len]; exact ej, h3.nx gg (R3.put hm ⟨_, upd_same, RelDs.mono gg _ _ (q2.set j rxy.1)⟩) (rs3.mono gg)⟩
      · cases e4
    · cases e4
  · exact h3.elim
/-- what the text says of an attribute of a class -/
structure Att (C : Ct) (c : String) (f : Str) : Prop where
  cl : Cls C.K (C.cA c)
  no : NoAttr C.K (C.cA c) f
theorem lfld {c : String} {f : Str} (ok : Ok C X W) (hA : Att C c f) (ho : LE C X W o fo) (hb : attributeBase o f X.env (eval o X.env) = eval o X.env := by rfl) : LE C X W (.Attribute o f pos) (fld c f fo) := PE.imp (pe_fld ho hb) fun σ H Q h => Lift.k h fun sd x H1 μ1 S1 dx R1 rs1 rx h1 => by
  unfold oGetF at h1
  split at h1
  · rename_i n
    obtain ⟨ad, rfl, hm⟩ := rx
    obtain ⟨ob, e6, q⟩ := R1.obj n ad hm
    split at h1
    · rename_i c' fs e0
      rw [e6] at e0; cases e0
      split at h1
      · rename_i ec
        subst ec
        split at h1
        · rename_i d el
          obtain ⟨dx, vs, q1, q2⟩ := q
          obtain ⟨v, e7, rv⟩ := q2.lookup.2 d el
          exact ⟨ad, _, dx, vs, v, rfl, q1, by rw [ok.K]; exact hA.cl, by rw [ok.K]; exact hA.no, e7, h1.ok .refl R1 rv⟩
        · exact h1.elim
      · exact h1.elim
    · exact h1.elim
  · exact h1.elim
theorem sfld {c : String} {f : Str} (ok : Ok C X W) (hA : Att C c f) (ho : LE C X W o fo) (hv : LE C X W e g) (hs : swapsWith e (some (.Attribute o f pos')) pos.line X.env = pure false := by rfl) : LS C X W (.Assign [.Attribute o f pos'] e pos) (setF c f fo g) := PS.imp (ps_fld ho hv hs) fun Z σ H ⟨μ, sd, S, R, rs, h⟩ => by
  refine LiftS.step _ Stable.true R rs trivial h fun x H1 μ1 S1 dx g1 R1 rs1 _ rx h1 => ?_
  refine LiftS.step _ (Stable.rel (d := dx) (v := x)) R1 rs1 rx h1 fun y H2 μ2 S2 dy g2 R2 rs2 rx2 ry h2 => ?_
  split at h2
  · rename_i n
    obtain ⟨ad, rfl, hm⟩ := ry
    obtain ⟨ob, e6, q⟩ := R2.obj n ad hm
    split at h2
    · rename_i c' fs e0
      rw [e6] at e0; cases e0
      split at h2
      · rename_i ec
        obtain ⟨ec, hl⟩ := ec
        subst ec
        obtain ⟨di, vs, q1, q2⟩ := q
        have gg := G.put (u := .ins (C.cA c') di (putF f x vs)) R2 hm
        exact ⟨ad, _, di, vs, rfl, q1, by rw [ok.K]; exact hA.cl, by rw [ok.K]; exact hA.no, by rw [← q2.len]; exact hl, h2.nx gg (R2.put hm ⟨di, _, upd_same, RelF.mono gg _ _ (q2.put rx2)⟩) (rs2.mono gg)⟩
      · exact h2.elim
    · exact h2.elim
  · exact h2.elim
end

/-! ### while -/
def whS : Nat → ST → SS → SS
  | 0, _, _ => fun _ _ => .bad
  | m + 1, c, b => fun sd s => (c sd s).bs sd fun k s1 => if k = true then (match b sd s1 with
      | .nx sd2 s2 => whS m c b sd2 s2
      | .ct sd2 s2 => whS m c b sd2 s2
      | .bk sd2 s2 => .nx sd2 s2
      | .rt d s2 => .rt d s2
      | .exc c sd2 s2 => .exc c sd2 s2
      | .bad => .bad) else .nx sd s1
section
variable {C : Ct} {X : Cx} {W : WX} {c : Expr} {body : List Stmt} {ft : ST} {sf : SS} {pos : Pos}
theorem swh (n : Nat) (hp : PassesOwn (model X.prog X.w) X.A X.env X.xe) (hc : LT C X W c ft) (hb : LSs C X W body sf) : LS C X W (.While c body [] pos) (whS n ft sf) := PS.imp (ps_while hp hc hb) fun Z σ H h => by
  refine ⟨fun m σ H => LiftS C W (whS m ft sf) Z σ H, ⟨n, h⟩, fun m σ H h => ?_⟩
  cases m with
  | zero => obtain ⟨μ, sd, S, R, rs, h⟩ := h; exact h.elim
  | succ m =>
    refine LiftS.k h fun sd x H1 μ1 S1 dx R1 rs1 rx h1 => ?_
    cases (show dx = x from rx)
    cases x
    · exact iteF (h1.nx .refl R1 rs1)
    · refine iteT ⟨fun σ' H' => LiftS C W (whS m ft sf) Z σ' H', fun σ' H' q => ⟨m, Nat.lt_succ_self m, q⟩, μ1, sd, S1, R1, rs1, ?_⟩
      have h2 : GoodS C W Z μ1 H1 (match sf sd S1 with
        | .nx sd2 s2 => whS m ft sf sd2 s2
        | .ct sd2 s2 => whS m ft sf sd2 s2
        | .bk sd2 s2 => .nx sd2 s2
        | .rt d s2 => .rt d s2
        | .exc c sd2 s2 => .exc c sd2 s2
        | .bad => .bad) := h1
      cases e : sf sd S1 with
      | nx sd2 s2 => rw [e] at h2; exact fun m' k b g' R r => ⟨m', sd2, s2, R, r, GoodS.mono g' h2⟩
      | ct sd2 s2 => rw [e] at h2; exact fun m' k b g' R r => ⟨m', sd2, s2, R, r, GoodS.mono g' h2⟩
      | bk sd2 s2 => rw [e] at h2; exact h2
      | rt d s2 => rw [e] at h2; exact h2
      | exc c sd2 s2 => rw [e] at h2; exact h2
      | bad => rw [e] at h2; exact h2
end

/-! ### what is walked -/
/-- items; the lists among the sources that may change: their numbers and what they hold -/
structure Src where
  ds : List D
  live : List (Nat × DO)
def Src.same (r : Src) (s : HS) : Prop := ∀ p ∈ r.live, s.h p.1 = some p.2
abbrev SI := Sl → HS → Res Src
/-- an iterator that yields the items as long as the lists stand -/
def Walks (C : Ct) (μ : Mu) (H : Hp) (J : It) (r : Src) : Prop := ∀ μb, Bn μ H μb → ∀ μ1 H1 S1, G C.K μb H μ1 H1 → Rep C μ1 S1 H1 → r.same S1 → ∀ i : Nat, (i < r.ds.length → J.go i H1) ∧ (r.ds.length ≤ i → J.stop i H1) ∧
  ∀ d x H2, r.ds[i]? = some d → J.yld i H1 x H2 → G C.K μ1 H1 μ1 H2 ∧ Rep C μ1 S1 H2 ∧ RelD C.K μ1 H2 d x
def LI (C : Ct) (X : Cx) (W : WX) (tg e : Expr) (f : SI) : Prop := PI X tg e (fun σ H R => Lift C W (fun μ H r J => Walks C μ H J r) f σ H R)
theorem PI.imp {X : Cx} {tg e : Expr} {t t' : TI} (h : PI X tg e t) (hi : ∀ σ H Q, t' σ H Q → t σ H Q) : PI X tg e t' := ⟨fun pins s σ H Q I q => h.run pins s σ H Q I (hi _ _ _ q)⟩
/-- a list: its items, and its number where it may change -/
def srcL (s : HS) : D → Option (List D × List (Nat × DO))
  | .lst ds => some (ds, [])
  | .scr ds => some (ds, [])
  | .ref n => match s.h n with
    | some (.lst ds) => some (ds, [(n, .lst ds)])
    | _ => none
  | _ => none
def itL (f : SE) : SI := fun sd s => (f sd s).bind fun x s1 => match srcL s1 x with
  | some (ds, l) => .ok ⟨ds, l⟩ s1
  | none => .bad
def itT (f : SE) : SI := fun sd s => (f sd s).bind fun x s1 => match x with
  | .tup ds => .ok ⟨ds, []⟩ s1
  | _ => .bad
def rngD (lo : Int) (n : Nat) : List D := (List.range n).map fun i => .int (lo + (i : Nat))
def itR1 (g : SA) : SI := fun sd s => (g sd s).bind fun xs s1 => match xs with
  | [.int j] => if -(2 ^ 62) ≤ j ∧ j < 2 ^ 62 then .ok ⟨rngD 0 j.toNat, []⟩ s1 else .bad
  | _ => .bad
def itR2 (g : SA) : SI := fun sd s => (g sd s).bind fun xs s1 => match xs with
  | [.int i, .int j] => if -(2 ^ 62) ≤ i ∧ i < 2 ^ 62 ∧ -(2 ^ 62) ≤ j ∧ j < 2 ^ 62 then .ok ⟨rngD i (j - i).toNat, []⟩ s1 else .bad
  | _ => .bad
def zipD : List D → List D → List D
  | a :: as, b :: bs => .tup [a, b] :: zipD as bs
  | _, _ => []
def itZ (g : SA) : SI := fun sd s => (g sd s).bind fun xs s1 => match xs with
  | [x, y] => match srcL s1 x, srcL s1 y with
    | some (ds, l), some (es, m) => .ok ⟨zipD ds es, l ++ m⟩ s1
    | _, _ => .bad
  | _ => .bad
def enumD : Nat → List D → List D
  | i, a :: as => .tup [.int (i : Nat), a] :: enumD (i + 1) as
  | _, [] => []
def itE (g : SA) : SI := fun sd s => (g sd s).bind fun xs s1 => match xs with
  | [x] => match srcL s1 x with
    | some (ds, l) => .ok ⟨enumD 0 ds, l⟩ s1
    | none => .bad
  | _ => .bad
section
variable {C : Ct} {X : Cx} {W : WX} {tg e e2 a b : Expr} {f : SE} {g : SA} {pos p : Pos}
/-- what a list source says later on -/
theorem srcL_rel {μ : Mu} {S : HS} {H : Hp} {d : D} {v : V} {ds : List D} {l : List (Nat × DO)} (R : Rep C μ S H) (r : RelD C.K μ H d v) (e : srcL S d = some (ds, l)) :
    ∃ ad, v = .ref ad ∧ (∃ vs, SqL C.K H ad vs) ∧ ∀ μb, Bn μ H μb → ∀ μ1 H1 S1, G C.K μb H μ1 H1 → Rep C μ1 S1 H1 → (∀ p ∈ l, S1.h p.1 = some p.2) → ∃ us, SqL C.K H1 ad us ∧ RelDs C.K μ1 H1 ds us := by
  unfold srcL at e
  split at e
  · cases e
    obtain ⟨ad, vs, rfl, hd, hn, rr⟩ := r
    exact ⟨ad, rfl, ⟨vs, .of hd⟩, fun μb hb μ1 H1 S1 g R1 _ => ⟨vs, .inl (g.rd (.of hd) (hn.bn hb (.of hd))).1, RelDs.mono g _ _ (rr.bn hb)⟩⟩
  · cases e
    obtain ⟨ad, vs, rfl, hd, rr⟩ := r
    exact ⟨ad, rfl, ⟨vs, hd.imp (fun h => h.1) fun h => h⟩, fun μb hb μ1 H1 S1 g R1 _ => ⟨vs, hd.imp (fun h => (g.rd h.1 (h.2.bn hb h.1)).1) fun h => h, RelDs.mono g _ _ (rr.bn hb)⟩⟩
  · split at e
    · rename_i n _ ds' e0
      cases e
      obtain ⟨ad, rfl, hm⟩ := r
      obtain ⟨ob, e1, q⟩ := R.obj n ad hm
      rw [e0] at e1; cases e1
      obtain ⟨vs, q1, q2⟩ := q
      refine ⟨ad, rfl, ⟨vs, .of q1⟩, fun μb hb μ1 H1 S1 g R1 hs => ?_⟩
      have hs' := hs (n, .lst ds) (by simp)
      obtain ⟨ob2, e2, q⟩ := R1.obj n ad (g.mu _ _ (by rw [hb.f]; exact hm))
      rw [show S1.h n = some (.lst ds) from hs'] at e2; cases e2
      obtain ⟨us, q3, q4⟩ := q
      exact ⟨us, .of q3, q4⟩
    · cases e
  · cases e
theorem itl (o : Ok C X W) (h : LE C X W e f) : LI C X W tg e (itL f) := PI.imp (pi_list h) fun σ H Rr h => Lift.k h fun sd x H1 μ1 S1 dx R1 rs1 rx h1 => by
  split at h1
  · rename_i ds l e0
    obtain ⟨ad, rfl, ⟨vs, hd⟩, k⟩ := srcL_rel R1 rx e0
    rw [o.K]
    refine ⟨ad, rfl, ⟨vs, hd⟩, ?_⟩
    refine Good.ok h1 .refl R1 fun μb hb μ2 H2 S2 g R2 hs i => ?_
    obtain ⟨us, q1, q2⟩ := k μb hb μ2 H2 S2 g R2 hs
    have hl := q2.len
    refine ⟨fun hi => ?_, fun hi => ⟨us, q1, by show us.length ≤ i; have : ds.length ≤ i := hi; omega⟩, fun d x H3 e hy => ?_⟩
    · obtain ⟨v, e, _⟩ := q2.get (List.getElem?_eq_getElem hi)
      exact ⟨us, v, q1, e⟩
    · obtain ⟨eH, hx⟩ := hy
      subst eH
      obtain ⟨v, e2, r2⟩ := q2.get e
      have := hx us q1
      rw [e2] at this; cases this
      exact ⟨.refl, R2, r2⟩
  · exact h1.elim
theorem itt (o : Ok C X W) (h : LE C X W e f) : LI C X W tg e (itT f) := PI.imp (pi_tup h) fun σ H Rr h => Lift.k h fun sd x H1 μ1 S1 dx R1 rs1 rx h1 => by
  split at h1
  · rename_i ds
    obtain ⟨ad, vs, rfl, ht, rr⟩ := rx
    rw [o.K]
    refine ⟨ad, rfl, ⟨vs, ht⟩, ?_⟩
    refine Good.ok h1 .refl R1 fun μb hb μ2 H2 S2 g R2 hs i => ?_
    have q1 := g.tp _ _ ht
    have q2 := RelDs.mono g _ _ (rr.bn hb)
    have hl := q2.len
    refine ⟨fun hi => ?_, fun hi => ⟨vs, q1, by show vs.length ≤ i; have : ds.length ≤ i := hi; omega⟩, fun d x H3 e hy => ?_⟩
    · obtain ⟨v, e, _⟩ := q2.get (List.getElem?_eq_getElem hi)
      exact ⟨vs, v, q1, e⟩
    · obtain ⟨eH, hx⟩ := hy
      subst eH
      obtain ⟨v, e2, r2⟩ := q2.get e
      have := hx vs q1
      rw [e2] at this; cases this
      exact ⟨.refl, R2, r2⟩
  · exact h1.elim
theorem rngD_len (lo : Int) (n : Nat) : (rngD lo n).length = n := by simp [rngD]
theorem walks_rng {μ : Mu} {H : Hp} (lo : Int) (n : Nat) : Walks C μ H (Itr lo n) ⟨rngD lo n, []⟩ := fun μb hb μ2 H2 S2 g R2 hs i => by
  refine ⟨fun hi => by rw [rngD_len] at hi; exact hi, fun hi => by rw [rngD_len] at hi; exact hi, fun d x H3 e hy => ?_⟩
  obtain ⟨eH, hx⟩ := hy
  subst eH; subst hx
  refine ⟨.refl, R2, ?_⟩
  unfold rngD at e
  rw [List.getElem?_map] at e
  cases q : (List.range n)[i]? with
  | none => rw [q] at e; cases e
  | some j =>
    rw [q] at e
    cases e
    have : j = i := by
      rw [List.getElem?_eq_some_iff] at q
      obtain ⟨h, e⟩ := q
      simpa using e.symm
    subst this
    exact rfl
theorem itr1 (hg : Gl X "range") (hm : X.mg "range" = none) (ha : LA C X W [a] g) (hs : starEach [a] X.env = [(false, eval a X.env)] := by rfl) : LI C X W tg (.Call (.Name "range" p) [a] [] pos) (itR1 g) := PI.imp (pi_range1 hg hm ha hs) fun σ H Rr h => Lift.k h fun sd x H1 μ1 S1 dx R1 rs1 rx h1 => by
  split at h1
  · rename_i j
    obtain ⟨v, rfl, rv⟩ := rx.l1
    cases (show v = .int j from rv)
    split at h1
    · rename_i hj
      exact ⟨j, rfl, hj.1, hj.2, Good.ok h1 .refl R1 (walks_rng 0 _)⟩
    · exact h1.elim
  · exact h1.elim
theorem itr2 (hg : Gl X "range") (hm : X.mg "range" = none) (ha : LA C X W [a, b] g) (hs : starEach [a, b] X.env = [(false, eval a X.env), (false, eval b X.env)] := by rfl) (hs2 : starEach [b] X.env = [(false, eval b X.env)] := by rfl) : LI C X W tg (.Call (.Name "range" p) [a, b] [] pos) (itR2 g) := PI.imp (pi_range2 hg hm ha hs hs2) fun σ H Rr h => Lift.k h fun sd x H1 μ1 S1 dx R1 rs1 rx h1 => by
  split at h1
  · rename_i i j
    obtain ⟨v, u, rfl, rv, ru⟩ := rx.l2
    cases (show v = .int i from rv); cases (show u = .int j from ru)
    split at h1
    · rename_i hj
      exact ⟨i, j, rfl, hj, Good.ok h1 .refl R1 (walks_rng i _)⟩
    · exact h1.elim
  · exact h1.elim
theorem zipD_len : ∀ ds es, (zipD ds es).length = min ds.length es.length
  | [], es => by simp [zipD]
  | d :: ds, [] => by simp [zipD]
  | d :: ds, e :: es => by simp [zipD, zipD_len ds es]
theorem zipD_get : ∀ {ds es : List D} {i : Nat} {d : D}, (zipD ds es)[i]? = some d → ∃ x y, d = .tup [x, y] ∧ ds[i]? = some x ∧ es[i]? = some y
  | [], es, i, d, h => by simp [zipD] at h
  | d :: ds, [], i, x, h => by simp [zipD] at h
  | d :: ds, e :: es, 0, x, h => by simp [zipD] at h; exact ⟨d, e, h.symm, rfl, rfl⟩
  | d :: ds, e :: es, i + 1, x, h => by
    obtain ⟨u, v, h1, h2, h3⟩ := zipD_get (ds := ds) (es := es) (i := i) (d := x) (by simpa [zipD] using h)
    exact ⟨u, v, h1, by simpa using h2, by simpa using h3⟩
theorem tup_good {μ : Mu} {S : HS} {H : Hp} {T : Addr} {ds : List D} {vs : List V} (R : Rep C μ S H) (hT : H T = none) (r : RelDs C.K μ H ds vs) : G C.K μ H μ (upd H T (.tup vs)) ∧ Rep C μ S (upd H T (.tup vs)) ∧ RelD C.K μ (upd H T (.tup vs)) (.tup ds) (.ref T) := by
  have g := G.new (u := .tup vs) R hT
  exact ⟨g, R.new hT, T, vs, rfl, SqT.of upd_same, RelDs.mono g _ _ r⟩
theorem itz {elts : List Expr} {kk : Nat} {tpos : Pos} (o : Ok C X W) (hg : Gl X "zip") (hm : X.mg "zip" = none) (ha : LA C X W [e, e2] g) (hs : starEach [e, e2] X.env = (false, eval e X.env) :: starEach [e2] X.env := by rfl) (hpl : (backTo pos (starEach [e2] X.env)).any (·.1) = false := by rfl) :
    LI C X W (.Tuple elts kk tpos) (.Call (.Name "zip" p) [e, e2] [] pos) (itZ g) := PI.imp (pi_zip hg hm ha hs hpl) fun σ H Rr h => Lift.k h fun sd x H1 μ1 S1 dx R1 rs1 rx h1 => by
  split at h1
  · rename_i dx dy
    obtain ⟨v, u, rfl, rv, ru⟩ := rx.l2
    split at h1
    · rename_i ds l es m e1 e2
      obtain ⟨ad, rfl, ⟨vs, hd⟩, k1⟩ := srcL_rel R1 rv e1
      obtain ⟨bd, rfl, ⟨us, hu⟩, k2⟩ := srcL_rel R1 ru e2
      rw [o.K]
      refine ⟨ad, bd, vs, us, rfl, hd, hu, ?_⟩
      refine Good.ok h1 .refl R1 fun μb hb μ2 H2 S2 g R2 hs i => ?_
      obtain ⟨vs, q1, q2⟩ := k1 μb hb μ2 H2 S2 g R2 fun p hp => hs p (List.mem_append_left _ hp)
      obtain ⟨us, q3, q4⟩ := k2 μb hb μ2 H2 S2 g R2 fun p hp => hs p (List.mem_append_right _ hp)
      have hl1 := q2.len
      have hl2 := q4.len
      refine ⟨fun hi => ?_, fun hi => ⟨vs, us, q1, q3, ?_⟩, fun d x H3 e hy => ?_⟩
      · obtain ⟨x, y, _, h2, h3⟩ := zipD_get (List.getElem?_eq_getElem hi)
        obtain ⟨v, h4, _⟩ := q2.get h2
        obtain ⟨w', h5, _⟩ := q4.get h3
        exact ⟨vs, us, v, w', q1, q3, h4, h5⟩
      · have : (zipD ds es).length ≤ i := hi
        rw [zipD_len] at this
        omega
      · obtain ⟨T, x', y', rfl, hT, rfl, hx, hy⟩ := hy
        obtain ⟨x, y, rfl, h2, h3⟩ := zipD_get e
        obtain ⟨v, h4, r4⟩ := q2.get h2
        obtain ⟨w', h5, r5⟩ := q4.get h3
        have e4 := hx vs q1
        have e5 := hy us q3
        rw [h4] at e4; cases e4
        rw [h5] at e5; cases e5
        exact tup_good R2 hT ⟨_, _, rfl, r4, _, _, rfl, r5, rfl⟩
    · exact h1.elim
  · exact h1.elim
theorem enumD_len : ∀ (k : Nat) (ds : List D), (enumD k ds).length = ds.length
  | k, [] => rfl
  | k, d :: ds => by simp [enumD, enumD_len (k + 1) ds]
theorem enumD_get : ∀ {ds : List D} {k i : Nat} {d : D}, (enumD k ds)[i]? = some d → ∃ x, d = .tup [.int ((k + i : Nat) : Int), x] ∧ ds[i]? = some x
  | [], k, i, d, h => by simp [enumD] at h
  | d :: ds, k, 0, x, h => by simp [enumD] at h; exact ⟨d, by rw [← h]; rfl, rfl⟩
  | d :: ds, k, i + 1, x, h => by
    obtain ⟨u, h1, h2⟩ := enumD_get (ds := ds) (k := k + 1) (i := i) (d := x) (by simpa [enumD] using h)
    exact ⟨u, by rw [h1, show k + 1 + i = k + (i + 1) by omega], by simpa using h2⟩
theorem ite {elts : List Expr} {kk : Nat} {tpos : Pos} (o : Ok C X W) (hg : Gl X "enumerate") (hm : X.mg "enumerate" = none) (ha : LA C X W [e] g) (hs : starEach [e] X.env = [(false, eval e X.env)] := by rfl) :
    LI C X W (.Tuple elts kk tpos) (.Call (.Name "enumerate" p) [e] [] pos) (itE g) := PI.imp (pi_enum hg hm ha hs) fun σ H Rr h => Lift.k h fun sd x H1 μ1 S1 dx R1 rs1 rx h1 => by
  split at h1
  · rename_i dx
    obtain ⟨v, rfl, rv⟩ := rx.l1
    split at h1
    · rename_i ds l e1
      obtain ⟨ad, rfl, ⟨vs, hd⟩, k1⟩ := srcL_rel R1 rv e1
      rw [o.K]
      refine ⟨ad, vs, rfl, hd, ?_⟩
      refine Good.ok h1 .refl R1 fun μb hb μ2 H2 S2 g R2 hs i => ?_
      obtain ⟨vs, q1, q2⟩ := k1 μb hb μ2 H2 S2 g R2 hs
      have hl1 := q2.len
      refine ⟨fun hi => ?_, fun hi => ⟨vs, q1, ?_⟩, fun d x H3 e hy => ?_⟩
      · obtain ⟨x, _, h2⟩ := enumD_get (List.getElem?_eq_getElem hi)
        obtain ⟨v, h4, _⟩ := q2.get h2
        exact ⟨vs, v, q1, h4⟩
      · have : (enumD 0 ds).length ≤ i := hi
        rw [enumD_len] at this
        omega
      · obtain ⟨T, x', rfl, hT, rfl, hx⟩ := hy
        obtain ⟨x, rfl, h2⟩ := enumD_get e
        obtain ⟨v, h4, r4⟩ := q2.get h2
        have e4 := hx vs q1
        rw [h4] at e4; cases e4
        refine tup_good R2 hT ⟨_, _, rfl, ?_, _, _, rfl, r4, rfl⟩
        show V.int (i : Nat) = V.int ((0 + i : Nat) : Int)
        rw [Nat.zero_add]
    · exact h1.elim
  · exact h1.elim
end

/-! ### targets of a for -/
abbrev TgD := Sl → D → Option Sl
def tgN (i : Nat) : TgD := fun sd d => some (sd.set i (some d))
def tgT (is : List Nat) : TgD := fun sd d => match d with
  | .tup ds => if ds.length = is.length then some (setAll is ds sd) else none
  | _ => none
theorem wipe_get (σ : L2.St) : ∀ (vs : List Nat) (j : Nat), (wipe σ vs)[j]? = if j ∈ vs ∧ j < σ.length then some none else σ[j]?
  | [], j => by simp [wipe]
  | v :: vs, j => by
    show ((wipe σ vs).set v none)[j]? = _
    rw [List.getElem?_set, wipe_length, wipe_get σ vs j]
    by_cases e : v = j
    · subst e
      by_cases h : v < σ.length
      · simp [h]
      · simp [h]
    · have e' : ¬ j = v := fun q => e q.symm
      simp [e, e']
theorem wipe_set {σ : L2.St} {vs : List Nat} {i : Nat} {x : Option V} (h : i ∈ vs) : wipe (σ.set i x) vs = wipe σ vs := by
  apply List.ext_getElem?
  intro j
  rw [wipe_get, wipe_get, List.length_set]
  by_cases e : j ∈ vs ∧ j < σ.length
  · rw [if_pos e, if_pos e]
  · rw [if_neg e, if_neg e, List.getElem?_set]
    split
    · rename_i e'
      subst e'
      have : ¬ i < σ.length := fun q => e ⟨h, q⟩
      rw [if_neg this, List.getElem?_eq_none (by omega)]
    · rfl
theorem wipe_wipe (σ : L2.St) (vs : List Nat) : wipe (wipe σ vs) vs = wipe σ vs := by
  apply List.ext_getElem?
  intro j
  rw [wipe_get, wipe_get, wipe_length]
  split <;> rfl
structure TgOk (C : Ct) (g : TG) (ts : List Nat) (t : TgD) : Prop where
  ok : ∀ (μ : Mu) (H : Hp) (sd sd' : Sl) (σ : L2.St) (d : D) (v : V) (Q : L2.St → Hp → Prop), RelS C.K μ H sd σ → RelD C.K μ H d v → t sd d = some sd' →
    (∀ σ', RelS C.K μ H sd' σ' → (∀ vs : List Nat, (∀ i ∈ ts, i ∈ vs) → wipe σ' vs = wipe σ vs) → Q σ' H) → g v σ H Q
theorem tgn {C : Ct} (i : Nat) : TgOk C (gName i) [i] (tgN i) := ⟨fun μ H sd sd' σ d v Q rs r e k => by
  cases e
  exact k _ (rs.set r i) fun vs h => wipe_set (h i (by simp))⟩
theorem gAll2 {K : PySem.W.Frag} {μ : Mu} {H : Hp} : ∀ {is : List Nat} {us : List V} {ds : List D} {σ : L2.St} {sd : Sl} {Q : L2.St → Hp → Prop}, RelDs K μ H ds us → ds.length = is.length → RelS K μ H sd σ →
    (∀ σ', RelS K μ H (setAll is ds sd) σ' → (∀ vs : List Nat, (∀ i ∈ is, i ∈ vs) → wipe σ' vs = wipe σ vs) → Q σ' H) → (is.foldr (fun i t => gCons (gName i) t) gNil) us σ H Q
  | [], us, ds, σ, sd, Q, r, hl, rs, k => by
    have hd : ds = [] := List.length_eq_zero_iff.mp hl
    subst hd
    exact ⟨r, k σ rs fun _ _ => rfl⟩
  | i :: is, us, ds, σ, sd, Q, r, hl, rs, k => by
    cases ds with
    | nil => simp at hl
    | cons d ds =>
      obtain ⟨v, u, rfl, r1, r2⟩ := r
      refine ⟨v, u, rfl, gAll2 (is := is) r2 (by simpa using hl) (rs.set r1 i) fun σ' r' w => k σ' r' fun vs hv => ?_⟩
      rw [w vs fun j hj => hv j (List.mem_cons_of_mem _ hj), wipe_set (hv i List.mem_cons_self)]
theorem tgt {C : Ct} (is : List Nat) : TgOk C (gTup C.K is.length (is.foldr (fun i t => gCons (gName i) t) gNil)) is (tgT is) := ⟨fun μ H sd sd' σ d v Q rs r e k => by
  unfold tgT at e
  split at e
  · rename_i ds
    split at e
    · rename_i hl
      cases e
      obtain ⟨ad, vs, rfl, ht, rr⟩ := r
      exact ⟨ad, vs, rfl, ht, by rw [← rr.len, hl], gAll2 rr hl rs k⟩
    · cases e
  · cases e⟩

/-! ### for -/
open Classical in
noncomputable def forL (r : Src) (t : TgD) (b : SS) : List D → SS
  | [], sd, s => if r.same s then .nx sd s else .bad
  | d :: ds, sd, s => if r.same s then match t sd d with
      | some sd1 => match b sd1 s with
        | .nx sd2 s2 => forL r t b ds sd2 s2
        | .ct sd2 s2 => forL r t b ds sd2 s2
        | .bk sd2 s2 => .nx sd2 s2
        | .rt d s2 => .rt d s2
        | .exc c sd2 s2 => .exc c sd2 s2
        | .bad => .bad
      | none => .bad
    else .bad
noncomputable def forS (src : SI) (t : TgD) (b : SS) : SS := fun sd s => (src sd s).bs sd fun r s1 => forL r t b r.ds sd s1
section
variable {C : Ct} {X : Cx} {W : WX} {tg iter : Expr} {body : List Stmt} {sf : SS} {src : SI} {t : TgD} {g : TG} {ts : List Nat} {pos : Pos}
theorem sfor (hp : PassesOwn (model X.prog X.w) X.A X.env X.xe) (o : Ok C X W) (hi : LI C X W tg iter src) (hg : PG X tg g) (ht : TgOk C g ts t) (hb : LSs C X W body sf) (hs : ∀ x, foldedSetIterable iter X.env x = pure x := by intro _; rfl) :
    LS C X W (.For tg iter body [] pos) (forS src t sf) := PS.imp (ps_for hp o.calm hi hg hb hs) fun Z σ H h => LiftS.k h fun sd J H1 μ1 S1 r R1 rs1 rx h1 => by
  refine ⟨fun i m σ H => m = r.ds.length - i ∧ i ≤ r.ds.length ∧ ∃ μ sd S, Rep C μ S H ∧ RelS C.K μ H sd σ ∧ G C.K μ1 H1 μ H ∧ GoodS C W Z μ H (forL r t sf (r.ds.drop i) sd S), ⟨_, rfl, Nat.zero_le _, μ1, sd, S1, R1, rs1, .refl, h1⟩, ?_⟩
  rintro i m σ2 H2 ⟨rfl, hi, μ, sd2, S, R, rs, gg, h2⟩
  by_cases hl : i < r.ds.length
  · refine .inr ?_
    have hd : r.ds.drop i = r.ds[i] :: r.ds.drop (i + 1) := List.drop_eq_getElem_cons hl
    rw [hd] at h2
    unfold forL at h2
    split at h2
    · rename_i hsame
      obtain ⟨w1, w2, w3⟩ := rx μ1 (.inl rfl) μ H2 S gg R hsame i
      refine ⟨w1 hl, ?_⟩
      refine ⟨fun σ' H' => ∃ μ sd S, Rep C μ S H' ∧ RelS C.K μ H' sd σ' ∧ G C.K μ1 H1 μ H' ∧ GoodS C W Z μ H' (forL r t sf (r.ds.drop (i + 1)) sd S), fun σ' H' q => ⟨_, by omega, rfl, hl, q⟩, fun x H' hy => ?_⟩
      obtain ⟨g3, R3, r3⟩ := w3 r.ds[i] x H' (List.getElem?_eq_getElem hl) hy
      split at h2
      · rename_i sd3 e3
        refine ht.ok μ H' sd2 sd3 σ2 _ x _ (rs.mono g3) r3 e3 fun σ' rs' _ => ?_
        refine ⟨μ, sd3, S, R3, rs', ?_⟩
        have h3 := GoodS.mono g3 h2
        have wm := gg.trans g3
        cases e : sf sd3 S with
        | nx sd4 s4 => rw [e] at h3; exact fun m' k b g' R r => ⟨m', sd4, s4, R, r, wm.trans g', GoodS.mono g' h3⟩
        | ct sd4 s4 => rw [e] at h3; exact fun m' k b g' R r => ⟨m', sd4, s4, R, r, wm.trans g', GoodS.mono g' h3⟩
        | bk sd4 s4 => rw [e] at h3; exact h3
        | rt d s4 => rw [e] at h3; exact h3
        | exc c sd4 s4 => rw [e] at h3; exact h3
        | bad => rw [e] at h3; exact h3
      · exact h2.elim
    · exact h2.elim
  · refine .inl ?_
    have hd : r.ds.drop i = [] := List.drop_eq_nil_of_le (by omega)
    rw [hd] at h2
    unfold forL at h2
    split at h2
    · rename_i hsame
      obtain ⟨w1, w2, w3⟩ := rx μ1 (.inl rfl) μ H2 S gg R hsame i
      exact ⟨w2 (by omega), h2.nx .refl R rs⟩
    · exact h2.elim
end
end DL
end
section
/-! DL6: defs, calls, methods, making, raising, trying. -/
namespace DL
open PySem PySem.Spec PyProof.Rows L2

abbrev FN := List D → HS → Res D
/-- a def's promise out of a Lean function -/
def spD (C : Ct) (n : Nat) (F : FN) : Sp := fun vs H Q E => vs.length = n ∧ ∃ μ ds S, Rep C μ S H ∧ RelDs C.K μ H ds vs ∧ Good C (fun c d _ H => E c d H) (RelD C.K) μ [] H Q (F ds S)
def SR.res : SR → Res D
  | .nx _ s => .ok .non s
  | .rt d s => .ok d s
  | .exc c _ s => .exc c s
  | _ => .bad
@[simp] theorem res_nx (sd : Sl) (s : HS) : (SR.nx sd s).res = .ok .non s := (rfl)
@[simp] theorem res_rt (d : D) (s : HS) : (SR.rt d s).res = .ok d s := (rfl)
@[simp] theorem res_exc (c : String) (sd : Sl) (s : HS) : (SR.exc c sd s).res = .exc c s := (rfl)
@[simp] theorem res_bad : SR.bad.res = .bad := (rfl)
def bodyD (n : Nat) (f : SS) : FN := fun ds s => (f (ds.map some ++ List.replicate (n - ds.length) none) s).res
def callD (n : Nat) (F : FN) : FN := fun ds s => if ds.length = n then F ds s else .bad
section
variable {C : Ct} {P : Program} {mg : Str → Option Value} {base : Heap}
theorem fnD {x qual : Str} {st : Stmt} {f : Addr} {fd : FuncData} {N ps : List Str} {k : Nat} {sem : SS} (F : Fun C.K x qual st f fd) (S : FnScope N ps (defScope st))
    (hb : ∀ (cdv : Value) (A : Around) (outer : List Env) (s : Shared) (H : Hp) (E : XK), Room k (A.deeper (envOfC qual (defScope st) s.heap.objs.size f cdv)) →
      Ok C (cxOf (L2.CX P C.w) P C.w C.K mg base N qual (defScope st) f cdv A outer s H E) (fun c d _ H => E c d H) →
      LSs C (cxOf (L2.CX P C.w) P C.w C.K mg base N qual (defScope st) f cdv A outer s H E) (fun c d _ H => E c d H) (defBody st) sem) :
    FnOk P C.w C.K mg base (L2.CX P C.w) (k + 1) f fd ps (spD C ps.length (bodyD N.length sem)) := by
  refine F.okX S (fun vs H Q E h => h.1) (fun cdv A outer s H vs Q E hr h => ?_)
  refine ⟨_, hb cdv A outer s H E hr ⟨rfl, rfl, takes_of rfl rfl rfl rfl, rfl⟩, ?_⟩
  obtain ⟨hl, μ, ds, S, R, rs, h⟩ := h
  refine ⟨μ, _, S, R, RelS.start rs, ?_⟩
  unfold bodyD at h
  revert h
  cases sem (ds.map some ++ List.replicate (N.length - ds.length) none) S with
  | nx sd s' => exact fun h m k b g R r => h.ok g R rfl
  | rt d s' => exact fun h m k b g R r => h.ok g R r
  | exc c sd s' => exact fun h m k b g R r => h m k g R
  | bk sd s' => exact fun h => h.elim
  | ct sd s' => exact fun h => h.elim
  | bad => exact fun h => h.elim
end
section
variable {C : Ct} {X : Cx} {W : WX} {e ob : Expr} {es : List Expr} {fo : SE} {g : SA} {pos p apos : Pos} {x m : Str} {f : Addr} {fd : FuncData} {ps : List Str} {k n : Nat} {F : FN}
theorem Good.call {α β : Type} {rel : Mu → Hp → α → β → Prop} {μ : Mu} {σ : L2.St} {H : Hp} {Q : β → Hp → Prop} {r : Res α} (h : Good C W rel μ σ H Q r) : Good C (fun c d _ H => W c d σ H) rel μ [] H Q r := by
  cases r with
  | ok a S => exact h
  | exc c S => exact h
  | bad => exact h
theorem spD_of {μ : Mu} {σ : L2.St} {H : Hp} {Q : VK} {ds : List D} {vs : List V} {S : HS} (R : Rep C μ S H) (r : RelDs C.K μ H ds vs) (h : Good C W (RelD C.K) μ σ H Q (callD n F ds S)) : spD C n F vs H Q (WE W σ) := by
  unfold callD at h
  split at h
  · rename_i hl
    exact ⟨by rw [← r.len]; exact hl, μ, ds, S, R, r, h.call⟩
  · exact h.elim
theorem lcall (FF : FnOk X.prog X.w X.K X.mg X.base (L2.CX X.prog X.w) k f fd ps (spD C n F)) (o : Ok C X W) (hr : Room k X.A) (hg : Gl X x) (hm : X.mg x = some (.ref f)) (hk : PySem.W.keepIn X.K (.ref f) = true) (hb : Binds X.K fd ps [])
    (ha : LA C X W (e :: es) g) (hdb : (x == ("__debug__" : Str)) = false := by decide) (he : starEach (e :: es) X.env = (false, eval e X.env) :: starEach es X.env := by rfl) (hpl : (backTo pos (starEach es X.env)).any (·.1) = false := by rfl) :
    LE C X W (.Call (.Name x p) (e :: es) [] pos) (bN g (callD n F)) :=
  PE.imp (pe_callS FF hr hg hm hk hb (fun σ => passAt o.tk σ) ha hdb he hpl) fun σ H Q h => Lift.k h fun sd x H1 μ1 S1 dx R1 rs1 rx h1 => spD_of R1 rx h1
def tMethS (Cc : Addr) (m : Str) (sp : Sp) (E : L2.St → XK) (ta : TE) (t : TA) : TE := fun σ H Q => ta σ H fun x H1 => ∃ a dx fs, x = .ref a ∧ H1 a = some (.ins Cc dx fs) ∧ fs.lookup m = none ∧ t σ H1 fun vs H2 => sp (x :: vs) H2 Q (E σ)
theorem pe_methS {CX : CXT} {Cc : Addr} {sp : Sp} {E : L2.St → XK} {ta : TE} {t : TA} {pl : Sem Bool} (he : PE X ob ta) (c : Cls X.K Cc) (hm : Meth X.K Cc m f)
    (FF : FnOk X.prog X.w X.K X.mg X.base CX k f fd ps sp) (hr : Room k X.A) (hb : Binds X.K fd ps []) (hx : ∀ σ, PassesAt CX X σ (E σ)) (ha : PA X (e :: es) t)
    (hst : starEach (e :: es) X.env = (false, eval e X.env) :: starEach es X.env := by rfl) (hpl : (backTo pos (starEach es X.env)).any (·.1) = false := by rfl)
    (ht : eval (.Call (.Attribute ob m apos) (e :: es) [] pos) X.env = (do
      let ov ← eval ob X.env
      standAt apos.atName
      let (f, first) ← holding [ov] (getMethod ov m pl)
      callWith pos f first (backTo pos (starEach (e :: es) X.env)) (backToKw pos (keywordEach [] X.env))) := by rfl) :
    PE X (.Call (.Attribute ob m apos) (e :: es) [] pos) (tMethS Cc m sp E ta t) := by
  refine ⟨fun pins s σ H Q I h => ?_⟩
  refine PySem.W.methodCall_KW (pl := pl) (thn (he.run pins s σ H _ I h) fun u s1 ⟨x, H1, I1, rx, a, dx, fs, ex, ea, l, q⟩ => ?_) ht
  subst ex
  obtain rfl : u = Value.ref a := rx
  refine getmeth_ok I1 ea c hm l ?_
  refine PySem.W.callWith_K (first := [.ref a]) (h₀ := X.base) I1.ok.mod.kin hm.kp (thn (ha.run pos pins s1 σ H1 _ I1 q) fun us s2 ⟨vs, H2, I2, r, q2⟩ => ⟨I2.kIn, ?_⟩) hst hpl
  exact run_fnS (us := .ref a :: us) (vs := .ref a :: vs) FF hr hb (hx σ) I2 (.cons rfl r) q2
theorem pe_methS0 {CX : CXT} {Cc : Addr} {sp : Sp} {E : L2.St → XK} {ta : TE} {pl : Sem Bool} (he : PE X ob ta) (c : Cls X.K Cc) (hm : Meth X.K Cc m f)
    (FF : FnOk X.prog X.w X.K X.mg X.base CX k f fd ps sp) (hr : Room k X.A) (hb : Binds X.K fd ps []) (hx : ∀ σ, PassesAt CX X σ (E σ))
    (ht : eval (.Call (.Attribute ob m apos) [] [] pos) X.env = (do
      let ov ← eval ob X.env
      standAt apos.atName
      let (f, first) ← holding [ov] (getMethod ov m pl)
      callWith pos f first (backTo pos (starEach [] X.env)) (backToKw pos (keywordEach [] X.env))) := by rfl) :
    PE X (.Call (.Attribute ob m apos) [] [] pos) (tMethS Cc m sp E ta tNil) := by
  refine ⟨fun pins s σ H Q I h => ?_⟩
  refine PySem.W.methodCall_KW (pl := pl) (thn (he.run pins s σ H _ I h) fun u s1 ⟨x, H1, I1, rx, a, dx, fs, ex, ea, l, q⟩ => ?_) ht
  subst ex
  obtain rfl : u = Value.ref a := rx
  refine getmeth_ok I1 ea c hm l ?_
  refine PySem.W.callWith_K0 (first := [.ref a]) I1.kIn hm.kp ?_
  exact run_fnS (us := [.ref a]) (vs := [.ref a]) FF hr hb (hx σ) I1 (.cons rfl .nil) q
/-- o.m(..) of an instance of the class c -/
def methE (c : String) (m : Str) (fo : SE) (g : SA) (F : FN) : SE := fun sd s => (fo sd s).bind fun x s1 => match x with
  | .ref n => match s1.h n with
    | some (.ins c' fs) => if c' = c ∧ fs.lookup m = none then (g sd s1).bind fun ds s2 => F (.ref n :: ds) s2 else .bad
    | _ => .bad
  | _ => .bad
theorem lmeth {c : String} {pl : Sem Bool} (o : Ok C X W) (cl : Cls X.K (C.cA c)) (hm : Meth X.K (C.cA c) m f) (FF : FnOk X.prog X.w X.K X.mg X.base (L2.CX X.prog X.w) k f fd ps (spD C n F)) (hr : Room k X.A) (hb : Binds X.K fd ps [])
    (ho : LE C X W ob fo) (ha : LA C X W (e :: es) g)
    (hst : starEach (e :: es) X.env = (false, eval e X.env) :: starEach es X.env := by rfl) (hpl : (backTo pos (starEach es X.env)).any (·.1) = false := by rfl)
    (ht : eval (.Call (.Attribute ob m apos) (e :: es) [] pos) X.env = (do
      let ov ← eval ob X.env
      standAt apos.atName
      let (f, first) ← holding [ov] (getMethod ov m pl)
      callWith pos f first (backTo pos (starEach (e :: es) X.env)) (backToKw pos (keywordEach [] X.env))) := by rfl) :
    LE C X W (.Call (.Attribute ob m apos) (e :: es) [] pos) (methE c m fo g (callD n F)) :=
  PE.imp (pe_methS ho cl hm FF hr hb (fun σ => passAt o.tk σ) ha hst hpl ht) fun σ H Q h => Lift.k h fun sd x H1 μ1 S1 dx R1 rs1 rx h1 => by
    split at h1
    · rename_i n'
      obtain ⟨ad, ex, hm'⟩ := rx
      obtain ⟨ob', e6, q⟩ := R1.obj n' ad hm'
      split at h1
      · rename_i c' fs e0
        rw [e6] at e0; cases e0
        split at h1
        · rename_i hc
          obtain ⟨ec, hl⟩ := hc
          subst ec
          obtain ⟨di, vs, q1, q2⟩ := q
          refine ⟨ad, di, vs, ex, q1, q2.lookup.1 hl, ?_⟩
          refine Lift.step _ (Stable.rel (d := .ref n') (v := x)) R1 rs1 ⟨ad, ex, hm'⟩ h1 fun ys H2 μ2 S2 dy g2 R2 rs2 rx2 ry h2 => ?_
          exact spD_of (ds := .ref n' :: dy) (vs := x :: ys) R2 ⟨x, ys, rfl, rx2, ry⟩ h2
        · exact h1.elim
      · exact h1.elim
    · exact h1.elim
theorem lmeth0 {c : String} {pl : Sem Bool} (o : Ok C X W) (cl : Cls X.K (C.cA c)) (hm : Meth X.K (C.cA c) m f) (FF : FnOk X.prog X.w X.K X.mg X.base (L2.CX X.prog X.w) k f fd ps (spD C n F)) (hr : Room k X.A) (hb : Binds X.K fd ps [])
    (ho : LE C X W ob fo)
    (ht : eval (.Call (.Attribute ob m apos) [] [] pos) X.env = (do
      let ov ← eval ob X.env
      standAt apos.atName
      let (f, first) ← holding [ov] (getMethod ov m pl)
      callWith pos f first (backTo pos (starEach [] X.env)) (backToKw pos (keywordEach [] X.env))) := by rfl) :
    LE C X W (.Call (.Attribute ob m apos) [] [] pos) (methE c m fo anil (callD n F)) :=
  PE.imp (pe_methS0 ho cl hm FF hr hb (fun σ => passAt o.tk σ) ht) fun σ H Q h => Lift.k h fun sd x H1 μ1 S1 dx R1 rs1 rx h1 => by
    split at h1
    · rename_i n'
      obtain ⟨ad, ex, hm'⟩ := rx
      obtain ⟨ob', e6, q⟩ := R1.obj n' ad hm'
      split at h1
      · rename_i c' fs e0
        rw [e6] at e0; cases e0
        split at h1
        · rename_i hc
          obtain ⟨ec, hl⟩ := hc
          subst ec
          obtain ⟨di, vs, q1, q2⟩ := q
          refine ⟨ad, di, vs, ex, q1, q2.lookup.1 hl, ?_⟩
          exact spD_of (ds := [.ref n']) (vs := [x]) R1 (RelDs.one (show RelD C.K μ1 H1 (.ref n') x from ⟨ad, ex, hm'⟩)) h1
        · exact h1.elim
      · exact h1.elim
    · exact h1.elim
/-- C(..): a new instance, then __init__ -/
def makE (c : String) (g : SA) (F : FN) : SE := fun sd s => (g sd s).bind fun ds s1 => match F (.ref s1.n :: ds) (s1.new (.ins c [])) with
  | .ok .non s2 => .ok (.ref s1.n) s2
  | _ => .bad
theorem make_spD {c : String} {μ : Mu} {σ : L2.St} {H : Hp} {Q : VK} {S : HS} {ds : List D} {vs : List V} (R : Rep C μ S H) (r : RelDs C.K μ H ds vs) (h : Good C W (RelD C.K) μ σ H Q (match callD n F (.ref S.n :: ds) (S.new (.ins c [])) with
      | .ok .non s2 => .ok (.ref S.n) s2
      | _ => .bad)) (x dx : Addr) (hx : H x = none) (hd : H dx = none) (hne : dx ≠ x) :
    spD C n F (.ref x :: (vs ++ [])) (upd (upd H dx (.own x)) x (.ins (C.cA c) dx [])) (fun v H2 => v = .non ∧ Q (.ref x) H2) E0 := by
  rw [List.append_nil]
  have R0 := R.new (u := .own x) hd
  have hx0 : upd H dx (.own x) x = none := by rw [upd_ne hne.symm]; exact hx
  have g1 := G.newM (u := .ins (C.cA c) dx []) R0 hx0
  have R1 := R0.newM (u := .ins (C.cA c) dx []) (o := .ins c []) hx0 ⟨dx, [], upd_same, rfl⟩
  have g := (G.new (u := .own x) R hd).trans g1
  have rr : RelDs C.K (muNew μ S.n x) (upd (upd H dx (.own x)) x (.ins (C.cA c) dx [])) (.ref S.n :: ds) (.ref x :: vs) := ⟨_, _, rfl, ⟨x, rfl, muNew_self⟩, RelDs.mono g _ _ r⟩
  split at h
  · rename_i s2 e
    unfold callD at e
    split at e
    · rename_i hl
      refine ⟨by rw [← rr.len]; exact hl, _, _, _, R1, rr, ?_⟩
      rw [e]
      intro μ' H' b g' R' rb
      exact ⟨rb, h.ok (g.trans g') R' ⟨x, rfl, g'.mu _ _ muNew_self⟩⟩
    · cases e
  · exact h.elim
theorem lmake {c : String} (o : Ok C X W) (M : Mk X.K (C.cA c) f) (FF : FnOk X.prog X.w X.K X.mg X.base (L2.CX X.prog X.w) k f fd ps (spD C n F)) (hr : Room (k + 1) X.A) (hg : Gl X x) (hm : X.mg x = some (.ref (C.cA c))) (hb : Binds X.K fd ps [])
    (ha : LA C X W (e :: es) g) (hdb : (x == ("__debug__" : Str)) = false := by decide) (he : starEach (e :: es) X.env = (false, eval e X.env) :: starEach es X.env := by rfl) (hpl : (backTo pos (starEach es X.env)).any (·.1) = false := by rfl) :
    LE C X W (.Call (.Name x p) (e :: es) [] pos) (makE c g (callD n F)) :=
  PE.imp (pe_make M FF hr hg hm hb .nil passL ha hdb he hpl) fun σ H Q h => Lift.k h fun sd vs H1 μ1 S1 dx R1 rs1 rx h1 => fun x d hx hd hne => make_spD R1 rx h1 x d hx hd hne
theorem lmake0 {c : String} (o : Ok C X W) (M : Mk X.K (C.cA c) f) (FF : FnOk X.prog X.w X.K X.mg X.base (L2.CX X.prog X.w) k f fd ps (spD C n F)) (hr : Room (k + 1) X.A) (hg : Gl X x) (hm : X.mg x = some (.ref (C.cA c))) (hb : Binds X.K fd ps [])
    (hdb : (x == ("__debug__" : Str)) = false := by decide) : LE C X W (.Call (.Name x p) [] [] pos) (makE c anil (callD n F)) :=
  PE.imp (pe_make0 M FF hr hg hm hb .nil passL hdb) fun σ H Q ⟨μ, sd, S, R, rs, h⟩ => fun x d hx hd hne => make_spD (ds := []) (vs := []) R rfl h x d hx hd hne
end

/-! ### raise, try -/
def rsS (c : String) : SS := fun sd s => .exc c sd s
/-- an expression that makes an exception of the class c -/
def LM (C : Ct) (X : Cx) (c : String) (e : Expr) : Prop := PMk X e (fun _ H Q => Q (.ref (C.cA c)) none H)
section
variable {C : Ct} {X : Cx} {W : WX} {e : Expr} {pos : Pos}
theorem sraise {c : String} (o : Ok C X W) (h : LM C X c e) : LS C X W (.Raise (some e) none pos) (rsS c) := PS.imp (ps_raise o.calm o.tk h) fun Z σ H ⟨μ, sd, S, R, rs, h⟩ => h μ H σ .refl R rs
/-- which classes of exceptions there are, and which stands under which -/
structure Exs (C : Ct) (xs : List String) (sub : String → String → Bool) : Prop where
  ok : ∀ c ∈ xs, ∀ h ∈ xs, PySem.W.exmOne C.K (.ref (C.cA c)) (.ref (C.cA h)) = some (sub c h)
def handle (xs : List String) (sub : String → String → Bool) (c : String) : List (String × SS) → Sl → HS → SR
  | [], sd, s => .exc c sd s
  | (h, f) :: r, sd, s => if h ∈ xs then (if sub c h = true then (match f sd s with
      | .exc _ _ _ => .bad
      | q => q) else handle xs sub c r sd s) else .bad
def tryS (xs : List String) (sub : String → String → Bool) (body : SS) (hs : List (String × SS)) : SS := fun sd s => match body sd s with
  | .exc c sd1 s1 => if c ∈ xs then handle xs sub c hs sd1 s1 else .bad
  | r => r
inductive Hds (C : Ct) (X : Cx) : List ExceptHandler → List (String × SS) → Prop
  | nil : Hds C X [] []
  | cons {x : Str} {c : String} {f : SS} {b₀ : Stmt} {suite : List Stmt} {np pos' : Pos} {hds : List ExceptHandler} {l : List (String × SS)} (hc : Names X x (.ref (C.cA c)))
      (hsu : ∀ (a : Addr) (oe : Obj) (pn : List (Addr × Obj)), LSs C (X.suite a ((a, oe) :: pn)) (fun _ _ _ _ => False) (b₀ :: suite) f) (r : Hds C X hds l) :
      Hds C X (.ExceptHandler (some (.Name x np)) none (b₀ :: suite) pos' :: hds) ((c, f) :: l)
def hdT (C : Ct) (l : List (String × SS)) : List (Value × (Addr → Value → Option Addr → TS)) := l.map fun p => (.ref (C.cA p.1), fun _ _ _ => LiftS C (fun _ _ _ _ => False) p.2)
theorem Hds.ok : ∀ {hds : List ExceptHandler} {l : List (String × SS)}, Hds C X hds l → HdsOk X hds (hdT C l)
  | _, _, .nil => .nil
  | _, _, .cons hc hsu r => .cons hc (fun a oe cls d pn _ _ => hsu a oe pn) r.ok
theorem handle_ok {xs : List String} {sub : String → String → Bool} (o : Ok C X W) (hX : Exs C xs sub) {c : String} (hc : c ∈ xs) {Z : Ends} : ∀ (l : List (String × SS)) (μ : Mu) (sd : Sl) (S : HS) (σ : L2.St) (H : Hp), Rep C μ S H → RelS C.K μ H sd σ → GoodS C W Z μ H (handle xs sub c l sd S) →
    wMany X.K W Z (hdT C l) (.ref (C.cA c)) none σ H
  | [], μ, sd, S, σ, H, R, rs, h => h μ H σ .refl R rs
  | (hh, f) :: r, μ, sd, S, σ, H, R, rs, h => by
    unfold handle at h
    split at h
    · rename_i hm
      refine ⟨sub c hh, by rw [o.K]; exact hX.ok c hc hh hm, fun e a ha => ?_, fun e => ?_⟩
      · rw [if_pos e] at h
        refine ⟨μ, sd, S, R, rs, ?_⟩
        show GoodS C (fun _ _ _ _ => False) Z μ H (f sd S)
        revert h
        cases f sd S with
        | exc c' sd' s' => exact fun h => h.elim
        | nx _ _ => exact fun h => h
        | rt _ _ => exact fun h => h
        | bk _ _ => exact fun h => h
        | ct _ _ => exact fun h => h
        | bad => exact fun h => h
      · rw [if_neg (by rw [e]; decide)] at h
        exact handle_ok o hX hc r μ sd S σ H R rs h
    · exact h.elim
theorem stry {body : List Stmt} {h₀ : ExceptHandler} {hds : List ExceptHandler} {l : List (String × SS)} {xs : List String} {sub : String → String → Bool} {fb : SS} (o : Ok C X W) (hX : Exs C xs sub) (hs : X.stack = X.env :: X.outer) (hf : X.env.frame = some X.env.locals)
    (hb : ∀ (W : WX) (pn : List (Addr × Obj)) (xe : Value → Shared → Prop), Ok C (X.tr pn xe) W → PassesOwn (model X.prog X.w) X.A X.env xe → LSs C (X.tr pn xe) W body fb) (hh : Hds C X (h₀ :: hds) l) :
    LS C X W (.Try body (h₀ :: hds) [] [] pos) (tryS xs sub fb l) := PS.imp (ps_try_many hs hf o.tk (fun W pn xe tk hp => hb W pn xe ⟨o.K, o.w, tk, o.calm⟩ hp) hh.ok) fun Z σ H ⟨μ, sd, S, R, rs, h⟩ => by
  refine ⟨μ, sd, S, R, rs, ?_⟩
  unfold tryS at h
  cases q : fb sd S with
  | exc c sd1 s1 =>
    rw [q] at h
    show ∀ μ' H' σ', G C.K μ H μ' H' → Rep C μ' s1 H' → RelS C.K μ' H' sd1 σ' → wMany X.K W Z (hdT C l) (.ref (C.cA c)) none σ' H'
    intro μ' H' σ' g R' rs'
    have h2 : GoodS C W Z μ H (if c ∈ xs then handle xs sub c l sd1 s1 else .bad) := h
    split at h2
    · rename_i hc
      exact handle_ok o hX hc l μ' sd1 s1 σ' H' R' rs' (GoodS.mono g h2)
    · exact h2.elim
  | nx _ _ => rw [q] at h; exact h
  | rt _ _ => rw [q] at h; exact h
  | bk _ _ => rw [q] at h; exact h
  | ct _ _ => rw [q] at h; exact h
  | bad => rw [q] at h; exact h
end

/-! ### comprehensions -/
def wipeD (sd : Sl) : List Nat → Sl
  | [] => sd
  | v :: vs => (wipeD sd vs).set v none
open Classical in
noncomputable def compL (r : Src) (t : TgD) (tt : ST) (el : SE) (sd0 : Sl) : List D → List D → HS → Res (List D)
  | [], acc, s => if r.same s then .ok acc s else .bad
  | d :: ds, acc, s => if r.same s then match t sd0 d with
      | some sd1 => match tt sd1 s with
        | .ok true s1 => match el sd1 s1 with
          | .ok y s2 => if acc.length < sizeLine then compL r t tt el sd0 ds (acc ++ [y]) s2 else .bad
          | _ => .bad
        | .ok false s1 => compL r t tt el sd0 ds acc s1
        | _ => .bad
      | none => .bad
    else .bad
noncomputable def compE (al : Bool) (src : SI) (vs : List Nat) (t : TgD) (tt : ST) (el : SE) : SE := fun sd s => (src sd s).bind fun r s1 => (compL r t tt el (wipeD sd vs) r.ds [] s1).bind fun acc s2 => mkL al acc s2
def yesT : ST := fun _ s => .ok true s
def LTs (C : Ct) (X : Cx) (W : WX) (ifs : List Expr) (f : ST) : Prop := PTs X ifs (Lift C W rB f)
section
variable {C : Ct} {X : Cx} {W : WX} {e : Expr} {ft : ST} {pos : Pos} {μ μ' : Mu} {H H' : Hp} {S : HS}
theorem PTs.imp {t t' : TT} {ifs : List Expr} (h : PTs X ifs t) (hi : ∀ σ H Q, t' σ H Q → t σ H Q) : PTs X ifs t' := ⟨fun pins s σ H Q I q => h.run pins s σ H Q I (hi _ _ _ q)⟩
theorem tsnil : LTs C X W [] yesT := PTs.imp pts_nil fun σ H Q ⟨μ, sd, S, R, rs, h⟩ => Good.ok h .refl R rfl
theorem tsone (h : LT C X W e ft) : LTs C X W [e] ft := pts_one h
theorem RelS.wipe {K : PySem.W.Frag} {sd : Sl} {σ : L2.St} (r : RelS K μ H sd σ) : ∀ vs, RelS K μ H (wipeD sd vs) (L2.wipe σ vs)
  | [] => r
  | v :: vs => (RelS.wipe r vs).del v
/-- a relation that goes from one map and heap to others -/
theorem RelF.of {K : PySem.W.Frag} (f : ∀ d v, RelD K μ H d v → RelD K μ' H' d v) : ∀ (fs : List (Str × D)) (vs : List (Str × V)), RelF K μ H fs vs → RelF K μ' H' fs vs
  | [], vs, h => h
  | (_, d) :: fs, vs, ⟨v, r, e, h1, h2⟩ => ⟨v, r, e, f d v h1, RelF.of f fs r h2⟩
theorem RelDs.of {K : PySem.W.Frag} (f : ∀ d v, RelD K μ H d v → RelD K μ' H' d v) : ∀ (fs : List D) (vs : List V), RelDs K μ H fs vs → RelDs K μ' H' fs vs
  | [], vs, h => h
  | d :: fs, vs, ⟨v, r, e, h1, h2⟩ => ⟨v, r, e, f d v h1, RelDs.of f fs r h2⟩
theorem RelM.of {K : PySem.W.Frag} (f : ∀ d v, RelD K μ H d v → RelD K μ' H' d v) : ∀ (fs : List (Key × D)) (vs : List (Key × V)), RelM K μ H fs vs → RelM K μ' H' fs vs
  | [], vs, h => h
  | (_, d) :: fs, vs, ⟨v, r, e, h1, h2⟩ => ⟨v, r, e, f d v h1, RelM.of f fs r h2⟩
theorem RelK.of (f : ∀ d v, RelD C.K μ H d v → RelD C.K μ' H' d v) : ∀ (kvs : List (D × D)) (es : List DictEntry), RelK C μ H kvs es → RelK C μ' H' kvs es
  | [], es, h => h
  | (k, d) :: r, es, ⟨e, q, nk, h0, h1, h2, h3, ⟨v, h4, h5⟩, ⟨u, h6, h7⟩, h8⟩ => ⟨e, q, nk, h0, h1, h2, h3, ⟨v, h4, f k v h5⟩, ⟨u, h6, f d u h7⟩, RelK.of f r q h8⟩
theorem ObjRel.of (f : ∀ d v, RelD C.K μ H d v → RelD C.K μ' H' d v) {o : DO} {a : Addr} (e : H' a = H a) (h : ObjRel C μ H o a) : ObjRel C μ' H' o a := by
  cases o with
  | lst ds => obtain ⟨vs, h1, h2⟩ := h; exact ⟨vs, e.trans h1, RelDs.of f _ _ h2⟩
  | ins c fs => obtain ⟨dx, vs, h1, h2⟩ := h; exact ⟨dx, vs, e.trans h1, RelF.of f _ _ h2⟩
  | dict kvs => obtain ⟨vs, h1, h2⟩ := h; exact ⟨vs, e.trans h1, RelM.of f _ _ h2⟩
  | mix kvs ep => obtain ⟨o, es, h1, h2, h3, h4, h5, h6, h7⟩ := h; exact ⟨o, es, e.trans h1, h2, h3, h4, h5, h6, RelK.of f _ _ h7⟩
  | exn c => obtain ⟨o, h1, h2⟩ := h; exact ⟨o, e.trans h1, h2⟩
theorem RelS.of {K : PySem.W.Frag} (f : ∀ d v, RelD K μ H d v → RelD K μ' H' d v) {sd : Sl} {σ : L2.St} (r : RelS K μ H sd σ) : RelS K μ' H' sd σ :=
  ⟨r.len, fun i d h => let ⟨v, e, q⟩ := r.at_ i d h; ⟨v, e, f d v q⟩⟩
/-- a list begins -/
theorem Rep.toBan (R : Rep C μ S H) {p : Addr} {u : HO} (hp : H p = none) : Rep C (μ.ban p) S (upd H p u) := by
  refine ⟨R.dom, R.inj, fun n a h => ?_, fun a h => ?_⟩
  · obtain ⟨o, e, r⟩ := R.obj n a h
    have r1 : ObjRel C (μ.ban p) H o a := ObjRel.of (fun d v => RelD.ban hp d v) rfl r
    exact ⟨o, e, ObjRel.mono (⟨fun _ _ h => h, fun _ _ h n => ⟨DL.upd_none hp h, n⟩, fun _ _ h => SqT.upd_none hp h, rfl⟩) (upd_ne (R.ne_none h hp)) r1⟩
  · rcases h with h | h
    · obtain ⟨⟨x, e⟩, n⟩ := R.ban a h
      exact ⟨⟨x, DL.upd_none hp e⟩, n⟩
    · subst h
      exact ⟨⟨u, upd_same⟩, fun n e => R.ne_none e hp rfl⟩
theorem G.ban0 {K : PySem.W.Frag} {p : Addr} {u : HO} (hp : H p = none) : G K (μ.ban p) H (μ.ban p) (upd H p u) :=
  ⟨fun _ _ h => h, fun _ _ h n => ⟨DL.upd_none hp h, n⟩, fun _ _ h => SqT.upd_none hp h, rfl⟩
mutual
theorem RelD.off {K : PySem.W.Frag} {p : Addr} {xs : List V} {u : HO} (hB : μ.B p) (hp : H p = some (.lst xs)) : ∀ (d : D) (v : V), RelD K μ H d v → RelD K μ (upd H p u) d v
  | .non, v, h => h
  | .bl b, v, h => h
  | .int i, v, h => h
  | .str s, v, h => h
  | .tup ds, v, ⟨a, vs, e, t, r⟩ => ⟨a, vs, e, by
      rcases t with (t | ⟨o, t⟩) | t
      · exact .inl (.inl (by rw [upd_ne (ne_of t hp (fun z => HO.noConfusion z))]; exact t))
      · exact .inl (.inr ⟨o, by rw [upd_ne (ne_of t hp (fun z => HO.noConfusion z))]; exact t⟩)
      · exact .inr t, RelDs.off hB hp ds vs r⟩
  | .lst ds, v, ⟨a, vs, e, t, n, r⟩ => ⟨a, vs, e, by
      have na : a ≠ p := fun q => n.2 (q ▸ hB)
      rw [upd_ne na]; exact t, n, RelDs.off hB hp ds vs r⟩
  | .scr ds, v, ⟨a, vs, e, t, r⟩ => ⟨a, vs, e, t.imp (fun t => ⟨by
      have na : a ≠ p := fun q => t.2.2 (q ▸ hB)
      rcases t.1 with t | ⟨o, t⟩
      · exact .inl (by rw [upd_ne na]; exact t)
      · exact .inr ⟨o, by rw [upd_ne na]; exact t⟩, t.2⟩) fun t => t, RelDs.off hB hp ds vs r⟩
  | .ref n, v, h => h
theorem RelDs.off {K : PySem.W.Frag} {p : Addr} {xs : List V} {u : HO} (hB : μ.B p) (hp : H p = some (.lst xs)) : ∀ (ds : List D) (vs : List V), RelDs K μ H ds vs → RelDs K μ (upd H p u) ds vs
  | [], vs, h => h
  | d :: ds, vs, ⟨v, r, e, h1, h2⟩ => ⟨v, r, e, RelD.off hB hp d v h1, RelDs.off hB hp ds r h2⟩
end
theorem Rep.off (R : Rep C μ S H) {p : Addr} {xs : List V} {u : HO} (hB : μ.B p) (hp : H p = some (.lst xs)) : Rep C μ S (upd H p u) :=
  ⟨R.dom, R.inj, fun n a h => let ⟨o, e, r⟩ := R.obj n a h; ⟨o, e, ObjRel.of (fun d v => RelD.off hB hp d v) (upd_ne fun q => (R.ban p hB).2 n (q ▸ h)) r⟩, fun a h => by
    obtain ⟨⟨x, e⟩, n⟩ := R.ban a h
    refine ⟨?_, n⟩
    by_cases q : a = p
    · exact ⟨u, by rw [q]; exact upd_same⟩
    · exact ⟨x, by rw [upd_ne q]; exact e⟩⟩
/-- what grew from before the list began -/
theorem G.off {K : PySem.W.Frag} {H0 : Hp} {p : Addr} {u : HO} {μ0 : Mu} (g : G K μ0 H0 μ H) (hp : H0 p = none) : G K μ0 H0 μ (upd H p u) :=
  ⟨g.mu, fun a o h n => ⟨by rw [upd_ne (ne_of_none h hp)]; exact (g.fr a o h n).1, (g.fr a o h n).2⟩, fun a vs h => by
    rcases h with h | h
    · have na : a ≠ p := by
        rcases h with h | ⟨o, h⟩
        · exact ne_of_none h hp
        · exact ne_of_none h hp
      rcases g.tp a vs (.inl h) with t | t
      · refine .inl ?_
        rcases t with t | ⟨o, t⟩
        · exact .inl (by rw [upd_ne na]; exact t)
        · exact .inr ⟨o, by rw [upd_ne na]; exact t⟩
      · exact .inr t
    · exact .inr h, g.b⟩
mutual
theorem RelD.unban {K : PySem.W.Frag} (hf : ∀ n a, μ n = some a → μ' n = some a) (hu : ∀ a, μ.un a → μ'.un a) : ∀ (d : D) (v : V), RelD K μ H d v → RelD K μ' H d v
  | .non, v, h => h
  | .bl b, v, h => h
  | .int i, v, h => h
  | .str s, v, h => h
  | .tup ds, v, ⟨a, vs, e, t, r⟩ => ⟨a, vs, e, t, RelDs.unban hf hu ds vs r⟩
  | .lst ds, v, ⟨a, vs, e, t, n, r⟩ => ⟨a, vs, e, t, hu a n, RelDs.unban hf hu ds vs r⟩
  | .scr ds, v, ⟨a, vs, e, t, r⟩ => ⟨a, vs, e, t.imp (fun t => ⟨t.1, hu a t.2⟩) fun t => t, RelDs.unban hf hu ds vs r⟩
  | .ref n, v, ⟨a, e, m⟩ => ⟨a, e, hf n a m⟩
theorem RelDs.unban {K : PySem.W.Frag} (hf : ∀ n a, μ n = some a → μ' n = some a) (hu : ∀ a, μ.un a → μ'.un a) : ∀ (ds : List D) (vs : List V), RelDs K μ H ds vs → RelDs K μ' H ds vs
  | [], vs, h => h
  | d :: ds, vs, ⟨v, r, e, h1, h2⟩ => ⟨v, r, e, RelD.unban hf hu d v h1, RelDs.unban hf hu ds r h2⟩
end
/-- a list that is done: a value, or an object -/
theorem mkL_done {σ : L2.St} {Q : VK} {al : Bool} {ds : List D} {vs : List V} {p : Addr} {μ0 : Mu} {H0 : Hp} (R : Rep C μ S H) (hB : ∀ a, μ.B a ↔ μ0.B a ∨ a = p) (hn : H0 p = none) (hnb : ¬ μ0.B p) (g : ∀ n a, μ0 n = some a → μ n = some a) (gf : ∀ a o, H0 a = some o → (∀ n, μ0 n ≠ some a) → H a = some o ∧ ∀ n, μ n ≠ some a) (gt : ∀ a vs, SqT C.K H0 a vs → SqT C.K H a vs)
    (hp : H p = some (.lst vs)) (r : RelDs C.K μ H ds vs) (h : Good C W (RelD C.K) μ0 σ H0 Q (mkL al ds S)) : Q (.ref p) H := by
  have hB0 : μ.B p := (hB p).mpr (.inr rfl)
  have hu := (R.ban p hB0).2
  unfold mkL at h
  split at h
  · split at h
    · have f1 : ∀ n a, μ n = some a → (⟨fun m => if m = S.n then some p else μ m, μ0.B⟩ : Mu) n = some a := fun n a e => by
        show (if n = S.n then some p else μ n) = some a
        rw [if_neg (Nat.ne_of_lt (R.out e))]; exact e
      have f2 : ∀ a, μ.un a → (⟨fun m => if m = S.n then some p else μ m, μ0.B⟩ : Mu).un a := fun a q => ⟨fun n => by
        show (if n = S.n then some p else μ n) ≠ some a
        split
        · intro e; cases e; exact q.2 hB0
        · exact q.1 n, fun b => q.2 ((hB a).mpr (.inl b))⟩
      have un : ∀ n, (⟨fun m => if m = S.n then some p else μ m, μ0.B⟩ : Mu) n = (if n = S.n then some p else μ n) := fun _ => rfl
      refine h ⟨fun m => if m = S.n then some p else μ m, μ0.B⟩ H _ ⟨fun n a e => f1 n a (g n a e), fun a o e n => ⟨(gf a o e n).1, fun m => ?_⟩, gt, rfl⟩ ⟨fun n => ?_, fun n m a h1 h2 => ?_, fun n a e => ?_, fun a b => ?_⟩ ⟨p, rfl, if_pos rfl⟩
      · rw [un]; split
        · intro q; cases q; rw [hn] at e; cases e
        · exact (gf a o e n).2 m
      · show _ ↔ n < S.n + 1
        constructor
        · rintro ⟨a, e⟩
          rw [un] at e; split at e
          · omega
          · have := R.out e; omega
        · intro e
          by_cases q : n = S.n
          · exact ⟨p, by rw [un, if_pos q]⟩
          · obtain ⟨a, z⟩ := (R.dom n).mpr (by omega)
            exact ⟨a, f1 n a z⟩
      · rw [un] at h1 h2
        split at h1 <;> split at h2
        · omega
        · cases h1; exact absurd h2 (hu m)
        · cases h2; exact absurd h1 (hu n)
        · exact R.inj n m a h1 h2
      · rw [un] at e; split at e
        · rename_i q; subst q; cases e
          exact ⟨.lst ds, if_pos rfl, vs, hp, RelDs.unban f1 f2 _ _ r⟩
        · rename_i q
          obtain ⟨o, z, ro⟩ := R.obj n a e
          exact ⟨o, (if_neg q).trans z, ObjRel.of (fun d v => RelD.unban f1 f2 d v) rfl ro⟩
      · obtain ⟨⟨x, e⟩, n⟩ := R.ban a ((hB a).mpr (.inl b))
        refine ⟨⟨x, e⟩, fun m => ?_⟩
        rw [un]; split
        · intro q; cases q; exact hnb b
        · exact n m
    · have f1 : ∀ n a, μ n = some a → (⟨μ.f, μ0.B⟩ : Mu) n = some a := fun _ _ e => e
      have f2 : ∀ a, μ.un a → (⟨μ.f, μ0.B⟩ : Mu).un a := fun a q => ⟨q.1, fun b => q.2 ((hB a).mpr (.inl b))⟩
      refine h ⟨μ.f, μ0.B⟩ H _ ⟨g, gf, gt, rfl⟩ ⟨R.dom, R.inj, fun n a e => ?_, fun a b => R.ban a ((hB a).mpr (.inl b))⟩ ⟨p, vs, rfl, hp, ⟨hu, hnb⟩, RelDs.unban f1 f2 _ _ r⟩
      obtain ⟨o, z, ro⟩ := R.obj n a e
      exact ⟨o, z, ObjRel.of (fun d v => RelD.unban f1 f2 d v) rfl ro⟩
  · exact h.elim
end
end DL
end
section
/-! DL7: list comprehensions. -/
namespace DL
open PySem PySem.Spec PyProof.Rows L2
abbrev W0 : WX := fun _ _ _ _ => False
section
variable {C : Ct} {X : Cx} {W : WX} {elt tg iter : Expr} {ifs : List Expr} {scope : Scope} {own : List (Str × Nat)} {pos : Pos} {src : SI} {t : TgD} {g : TG} {ts : List Nat} {tt : ST} {el : SE}
theorem lcomp_core (al : Bool) (ht : TgOk C g ts t) (hts : ∀ i ∈ ts, i ∈ own.map (·.2)) {σ : L2.St} {H : Hp} {Q : VK} (h : Lift C W (RelD C.K) (compE al src (own.map (·.2)) t tt el) σ H Q) :
    tLc (fun σ H R => Lift C W (fun μ H r J => Walks C μ H J r) src σ H R) g (Lift C W0 rB tt) (Lift C W0 (RelD C.K) el) (own.map (·.2)) σ H Q := by
  refine Lift.k h fun sd J H1 μ1 S1 r R1 rs1 rx h1 => ?_
  intro D hD
  have bD : Bn μ1 H1 (μ1.ban D) := .inr ⟨D, hD, rfl⟩
  have RD := R1.toBan (u := .lst []) hD
  have gD : G C.K (μ1.ban D) H1 (μ1.ban D) (upd H1 D (.lst [])) := ⟨fun _ _ h => h, fun _ _ h n => ⟨DL.upd_none hD h, n⟩, fun _ _ h => SqT.upd_none hD h, rfl⟩
  have rsw := rs1.wipe (own.map (·.2))
  have rsD : RelS C.K (μ1.ban D) H1 (wipeD sd (own.map (·.2))) (wipe σ (own.map (·.2))) := RelS.of (fun d v => RelD.ban hD d v) rsw
  refine ⟨fun i m H' => m = r.ds.length - i ∧ i ≤ r.ds.length ∧ ∃ μ S acc av, Rep C μ S H' ∧ G C.K (μ1.ban D) H1 μ H' ∧ H' D = some (.lst av) ∧ RelDs C.K μ H' acc av ∧ acc.length ≤ sizeLine ∧
      Good C W (RelD C.K) μ1 σ H1 Q ((compL r t tt el (wipeD sd (own.map (·.2))) (r.ds.drop i) acc S).bind fun acc s2 => mkL al acc s2),
    ⟨_, rfl, Nat.zero_le _, μ1.ban D, S1, [], [], RD, gD, upd_same, rfl, Nat.zero_le _, h1⟩, ?_⟩
  rintro i m H2 ⟨rfl, hi, μ, S, acc, av, R, gg, hH, ra, hz, h2⟩
  have hB : μ.B D := by rw [gg.b]; exact .inr rfl
  by_cases hl : i < r.ds.length
  · refine .inr ?_
    have hd : r.ds.drop i = r.ds[i] :: r.ds.drop (i + 1) := List.drop_eq_getElem_cons hl
    rw [hd] at h2
    unfold compL at h2
    split at h2
    · rename_i hsame
      obtain ⟨w1, w2, w3⟩ := rx _ bD μ H2 S gg R hsame i
      refine ⟨w1 hl, fun H' => i + 1 ≤ r.ds.length ∧ ∃ μ S acc av, Rep C μ S H' ∧ G C.K (μ1.ban D) H1 μ H' ∧ H' D = some (.lst av) ∧ RelDs C.K μ H' acc av ∧ acc.length ≤ sizeLine ∧
        Good C W (RelD C.K) μ1 σ H1 Q ((compL r t tt el (wipeD sd (own.map (·.2))) (r.ds.drop (i + 1)) acc S).bind fun acc s2 => mkL al acc s2), fun H' q => ⟨_, by omega, rfl, q.1, q.2⟩, fun x H3 hy => ?_⟩
      obtain ⟨g3, R3, r3⟩ := w3 r.ds[i] x H3 (List.getElem?_eq_getElem hl) hy
      have gg3 := gg.trans g3
      have rs3 := RelS.mono gg3 rsD
      have unD : ∀ n, μ n ≠ some D := (R.ban D hB).2
      have hH3 := (g3.fr D _ hH unD).1
      split at h2
      · rename_i sd1 e1
        refine ht.ok μ H3 _ sd1 _ _ x _ rs3 r3 e1 fun σ' rs' hw => ⟨?_, ?_⟩
        · rw [hw _ hts, wipe_wipe]
        refine ⟨μ, sd1, S, R3, rs', ?_⟩
        cases e2 : tt sd1 S with
        | exc c s => rw [e2] at h2; exact h2.elim
        | bad => rw [e2] at h2; exact h2.elim
        | ok b S4 =>
          rw [e2] at h2
          intro μ4 H4 b' g4 R4 rb
          cases (show b = b' from rb)
          have unD3 : ∀ n, μ n ≠ some D := unD
          have hH4 := g4.fr D _ hH3 unD3
          cases b with
          | false =>
            refine iteF ⟨hl, μ4, S4, acc, av, R4, gg3.trans g4, hH4.1, RelDs.mono g4 _ _ (RelDs.mono g3 _ _ ra), hz, h2⟩
          | true =>
            refine iteT ⟨μ4, sd1, S4, R4, rs'.mono g4, ?_⟩
            cases e3 : el sd1 S4 with
            | exc c s => simp only [e3] at h2; exact h2.elim
            | bad => simp only [e3] at h2; exact h2.elim
            | ok y S5 =>
              simp only [e3] at h2
              split at h2
              · rename_i hlt
                intro μ5 H5 v g5 R5 rv
                have hH5 := g5.fr D _ hH4.1 hH4.2
                have gg5 := (gg3.trans g4).trans g5
                have hB5 : μ5.B D := by rw [gg5.b]; exact .inr rfl
                have ra5 : RelDs C.K μ5 H5 acc av := RelDs.mono g5 _ _ (RelDs.mono g4 _ _ (RelDs.mono g3 _ _ ra))
                refine ⟨av, hH5.1, by rw [← ra.len]; exact hlt, hl, μ5, S5, acc ++ [y], av ++ [v], R5.off hB5 hH5.1, gg5.off hD, upd_same, RelDs.off hB5 hH5.1 _ _ (ra5.append (RelDs.one rv)), by rw [List.length_append, List.length_singleton]; exact hlt, h2⟩
              · exact h2.elim
      · exact h2.elim
    · exact h2.elim
  · refine .inl ?_
    have hd : r.ds.drop i = [] := List.drop_eq_nil_of_le (by omega)
    rw [hd] at h2
    unfold compL at h2
    split at h2
    · rename_i hsame
      obtain ⟨w1, w2, w3⟩ := rx _ bD μ H2 S gg R hsame i
      refine ⟨w2 (by omega), ?_⟩
      refine mkL_done (μ0 := μ1) (H0 := H1) R (fun a => by rw [gg.b]; exact Iff.rfl) hD (fun b => ?_) (fun n a e => gg.mu n a e) (fun a o e n => gg.fr a o e n) (fun a vs e => gg.tp a vs e) hH ra h2
      obtain ⟨⟨u, e⟩, _⟩ := R1.ban D b
      rw [hD] at e; cases e
    · exact h2.elim
theorem lcomp (al : Bool) (o : Ok C X W) (hN : X.N.Nodup) (hi : LI C X W tg iter src) (ok : BlkOk X.N X.env.scope scope own) (ht : TgOk C g ts t) (hts : ∀ i ∈ ts, i ∈ own.map (·.2))
    (hg : ∀ (s : Shared) (H : Hp) (Cl : Addr) (cl : List (Str × Addr)) (fp : List Addr), PG (X.blk s H scope (compEnvC scope cl Cl X.env) fp) tg g)
    (htt : ∀ (s : Shared) (H : Hp) (Cl : Addr) (cl : List (Str × Addr)) (fp : List Addr), Ok C (X.blk s H scope (compEnvC scope cl Cl X.env) fp) W0 → LTs C (X.blk s H scope (compEnvC scope cl Cl X.env) fp) W0 ifs tt)
    (he : ∀ (s : Shared) (H : Hp) (Cl : Addr) (cl : List (Str × Addr)) (fp : List Addr), Ok C (X.blk s H scope (compEnvC scope cl Cl X.env) fp) W0 → LE C (X.blk s H scope (compEnvC scope cl Cl X.env) fp) W0 elt el)
    (hs : ∀ x, foldedSetIterable iter X.env x = pure x := by intro _; rfl) : LE C X W (.ListComp elt [⟨tg, iter, ifs, 0⟩] scope pos) (compE al src (own.map (·.2)) t tt el) :=
  PE.imp (pe_lc o.calm hN hi ok hg (fun s H Cl cl fp => htt s H Cl cl fp ⟨o.K, o.w, takes0, o.calm⟩) (fun s H Cl cl fp => he s H Cl cl fp ⟨o.K, o.w, takes0, o.calm⟩) hs) fun σ H Q h => lcomp_core al ht hts h
theorem scomp (al : Bool) {i : Nat} {y : Str} {py spos : Pos} (o : Ok C X W) (hN : X.N.Nodup) (hy : X.N[i]? = some y) (hyl : X.env.scope.names.lookup y = some .local)
    (hsw : swapsWith (.ListComp elt [⟨tg, iter, ifs, 0⟩] scope pos) (some (.Name y py)) spos.line X.env = pure true) (hi : LI C X W tg iter src) (ok : BlkOk X.N X.env.scope scope own) (ht : TgOk C g ts t) (hts : ∀ i ∈ ts, i ∈ own.map (·.2))
    (hg : ∀ (s : Shared) (H : Hp) (Cl : Addr) (cl : List (Str × Addr)) (fp : List Addr), PG (X.blk s H scope (compEnvC scope cl Cl X.env) fp) tg g)
    (htt : ∀ (s : Shared) (H : Hp) (Cl : Addr) (cl : List (Str × Addr)) (fp : List Addr), Ok C (X.blk s H scope (compEnvC scope cl Cl X.env) fp) W0 → LTs C (X.blk s H scope (compEnvC scope cl Cl X.env) fp) W0 ifs tt)
    (he : ∀ (s : Shared) (H : Hp) (Cl : Addr) (cl : List (Str × Addr)) (fp : List Addr), Ok C (X.blk s H scope (compEnvC scope cl Cl X.env) fp) W0 → LE C (X.blk s H scope (compEnvC scope cl Cl X.env) fp) W0 elt el)
    (hs : ∀ x, foldedSetIterable iter X.env x = pure x := by intro _; rfl) : LS C X W (.Assign [.Name y py] (.ListComp elt [⟨tg, iter, ifs, 0⟩] scope pos) spos) (setS i (compE al src (own.map (·.2)) t tt el)) :=
  PS.imp (ps_setLc o.calm hN hy hyl hsw hi ok hg (fun s H Cl cl fp => htt s H Cl cl fp ⟨o.K, o.w, takes0, o.calm⟩) (fun s H Cl cl fp => he s H Cl cl fp ⟨o.K, o.w, takes0, o.calm⟩) hs) fun Z σ H ⟨μ, sd, S, R, rs, h⟩ => by
    have h' : Lift C W (RelD C.K) (compE al src (own.map (·.2)) t tt el) σ H (fun v H' => Z.nx (σ.set i (some v)) H') := by
      refine LiftS.step (k := fun d s1 => .nx (sd.set i (some d)) s1) _ Stable.true R rs trivial h fun x H1 μ1 S1 dx g1 R1 rs1 _ rx h1 => ?_
      exact h1.nx .refl R1 (rs1.set rx _)
    exact lcomp_core al ht hts h'
end
end DL
end
section
/-! DL8: dicts whose keys are ints and texts. -/
namespace DL
open PySem PySem.Spec PyProof.Rows L2

def lkK (kvs : List (Key × D)) (k : Key) : Option D := (kvs.find? fun kv => decide (kv.1 = k)).map (·.2)
def ptK (kvs : List (Key × D)) (k : Key) (v : D) : List (Key × D) :=
  if (kvs.any fun kv => decide (kv.1 = k)) = true then kvs.map (fun kv => if kv.1 = k then (kv.1, v) else kv) else kvs ++ [(k, v)]
def drK (kvs : List (Key × D)) (k : Key) : List (Key × D) := kvs.filter fun kv => decide (kv.1 ≠ k)
def mgK (kvs more : List (Key × D)) : List (Key × D) := more.foldl (fun acc kv => ptK acc kv.1 kv.2) kvs
def keyOf : D → Option Key
  | .int i => some (.inl i)
  | .str s => some (.inr s)
  | _ => none
section
variable {K : PySem.W.Frag} {μ : Mu} {H : Hp}
theorem keyOf_rel {d : D} {v : V} {k : Key} (r : RelD K μ H d v) (e : keyOf d = some k) : v = kV k := by
  cases d <;> cases e
  · exact r
  · exact r
theorem RelM.find : ∀ {kvs : List (Key × D)} {vs : List (Key × V)} (k : Key), RelM K μ H kvs vs → (lkK kvs k = none → valV vs k = none) ∧ ∀ d, lkK kvs k = some d → ∃ v, valV vs k = some v ∧ RelD K μ H d v
  | [], vs, k, h => by have h : vs = [] := h; subst h; exact ⟨fun _ => rfl, fun d e => by cases e⟩
  | (j, x) :: kvs, vs, k, ⟨v, r, e, h1, h2⟩ => by
    subst e
    by_cases q : j = k
    · refine ⟨fun e => ?_, fun d e => ?_⟩
      · unfold lkK at e
        simp [q] at e
      · unfold lkK at e
        simp [q] at e
        subst e
        exact ⟨v, by unfold valV; simp [q], h1⟩
    · have e1 : lkK ((j, x) :: kvs) k = lkK kvs k := by unfold lkK; simp [q]
      have e2 : valV ((j, v) :: r) k = valV r k := by unfold valV; simp [q]
      rw [e1, e2]
      exact RelM.find k h2
theorem RelM.any : ∀ {kvs : List (Key × D)} {vs : List (Key × V)} (k : Key), RelM K μ H kvs vs → (vs.any fun kv => decide (kv.1 = k)) = kvs.any fun kv => decide (kv.1 = k)
  | [], vs, k, h => by have h : vs = [] := h; subst h; rfl
  | (j, x) :: kvs, vs, k, ⟨v, r, e, h1, h2⟩ => by subst e; rw [List.any_cons, List.any_cons, RelM.any k h2]
theorem RelM.app : ∀ {kvs : List (Key × D)} {vs : List (Key × V)} {k : Key} {d : D} {v : V}, RelM K μ H kvs vs → RelD K μ H d v → RelM K μ H (kvs ++ [(k, d)]) (vs ++ [(k, v)])
  | [], vs, k, d, v, h, r => by have h : vs = [] := h; subst h; exact ⟨v, [], rfl, r, rfl⟩
  | (j, x) :: kvs, vs, k, d, v, ⟨u, q, e, h1, h2⟩, r => by subst e; exact ⟨u, q ++ [(k, v)], rfl, h1, RelM.app h2 r⟩
theorem RelM.mapK : ∀ {kvs : List (Key × D)} {vs : List (Key × V)} {k : Key} {d : D} {v : V}, RelM K μ H kvs vs → RelD K μ H d v → RelM K μ H (kvs.map fun kv => if kv.1 = k then (kv.1, d) else kv) (vs.map fun kv => if kv.1 = k then (kv.1, v) else kv)
  | [], vs, k, d, v, h, r => by have h : vs = [] := h; subst h; rfl
  | (j, x) :: kvs, vs, k, d, v, ⟨u, q, e, h1, h2⟩, r => by
    subst e
    rw [List.map_cons, List.map_cons]
    by_cases z : j = k
    · rw [if_pos z, if_pos z]; exact ⟨v, _, rfl, r, RelM.mapK h2 r⟩
    · rw [if_neg z, if_neg z]; exact ⟨u, _, rfl, h1, RelM.mapK h2 r⟩
theorem RelM.put {kvs : List (Key × D)} {vs : List (Key × V)} {k : Key} {d : D} {v : V} (h : RelM K μ H kvs vs) (r : RelD K μ H d v) : RelM K μ H (ptK kvs k d) (putK vs k v) := by
  unfold ptK putK
  rw [RelM.any k h]
  split
  · exact h.mapK r
  · exact h.app r
theorem RelM.drop : ∀ {kvs : List (Key × D)} {vs : List (Key × V)} (k : Key), RelM K μ H kvs vs → RelM K μ H (drK kvs k) (dropK vs k)
  | [], vs, k, h => by have h : vs = [] := h; subst h; rfl
  | (j, x) :: kvs, vs, k, ⟨u, q, e, h1, h2⟩ => by
    subst e
    unfold drK dropK
    rw [List.filter_cons, List.filter_cons]
    by_cases z : j = k
    · simp only [z, ne_eq, not_true_eq_false, decide_false, Bool.false_eq_true, if_false]
      exact RelM.drop k h2
    · simp only [z, ne_eq, not_false_eq_true, decide_true, if_true]
      exact ⟨u, _, rfl, h1, RelM.drop k h2⟩
theorem RelM.len : ∀ {kvs : List (Key × D)} {vs : List (Key × V)}, RelM K μ H kvs vs → kvs.length = vs.length
  | [], vs, h => by have h : vs = [] := h; subst h; rfl
  | (j, x) :: kvs, vs, ⟨u, q, e, h1, h2⟩ => by subst e; simp [RelM.len h2]
theorem RelM.keys : ∀ {kvs : List (Key × D)} {vs : List (Key × V)}, RelM K μ H kvs vs → vs.map (·.1) = kvs.map (·.1)
  | [], vs, h => by have h : vs = [] := h; subst h; rfl
  | (j, x) :: kvs, vs, ⟨u, q, e, h1, h2⟩ => by subst e; simp [RelM.keys h2]
theorem RelM.merge : ∀ {more : List (Key × D)} {ms : List (Key × V)} {kvs : List (Key × D)} {vs : List (Key × V)}, RelM K μ H more ms → RelM K μ H kvs vs → RelM K μ H (mgK kvs more) (mergeK vs ms)
  | [], ms, kvs, vs, h, r => by have h : ms = [] := h; subst h; exact r
  | (j, x) :: more, ms, kvs, vs, ⟨u, q, e, h1, h2⟩, r => by
    subst e
    show RelM K μ H (mgK (ptK kvs j x) more) (mergeK (putK vs j u) q)
    exact RelM.merge h2 (r.put h1)
end
/-- the dict that a value is -/
def getK (s : HS) : D → Option (List (Key × D))
  | .ref n => match s.h n with
    | some (.dict kvs) => some kvs
    | _ => none
  | _ => none
def mutK (x : D) (s : HS) (k : Nat → List (Key × D) → Res D) : Res D := match x with
  | .ref n => match s.h n with
    | some (.dict kvs) => k n kvs
    | _ => .bad
  | _ => .bad
def dnewE : SE := fun _ s => .ok (.ref s.n) (s.new (.dict []))
def oDGet (x k : D) (s : HS) : Res D := match getK s x, keyOf k with
  | some kvs, some q => match lkK kvs q with
    | some d => .ok d s
    | none => .bad
  | _, _ => .bad
def oDIn (neg : Bool) (k x : D) (s : HS) : Res D := match getK s x, keyOf k with
  | some kvs, some q => .ok (.bl ((lkK kvs q).isSome != neg)) s
  | _, _ => .bad
def dputS (o i v : SE) : SS := fun sd s => (v sd s).bs sd fun d s1 => (o sd s1).bs sd fun x s2 => (i sd s2).bs sd fun k s3 => match x with
  | .ref n => match s3.h n, keyOf k with
    | some (.dict kvs), some q => if kvs.length < sizeLine then .nx sd (s3.put n (.dict (ptK kvs q d))) else .bad
    | _, _ => .bad
  | _ => .bad
def dget2E (o k z : SE) : SE := fun sd s => (o sd s).bind fun x s1 => match getK s1 x with
  | some _ => (k sd s1).bind fun y s2 => (z sd s2).bind fun w s3 => match getK s3 x, keyOf y with
    | some kvs, some q => .ok ((lkK kvs q).getD w) s3
    | _, _ => .bad
  | none => .bad
def dpop1E (o k : SE) : SE := fun sd s => (o sd s).bind fun x s1 => match getK s1 x with
  | some _ => (k sd s1).bind fun y s2 => mutK x s2 fun n kvs => match keyOf y with
    | some q => match lkK kvs q with
      | some d => .ok d (s2.put n (.dict (drK kvs q)))
      | none => .bad
    | none => .bad
  | none => .bad
def keyInt : Key → Option Int
  | .inl i => some i
  | .inr _ => none
def oSortedK (al : Bool) : List D → HS → Res D := fun xs s => match xs with
  | [x] => match (getK s x).bind fun kvs => allP keyInt (kvs.map (·.1)) with
    | some ns => if ns.length < 64 then mkL al ((sortZ ns).map D.int) s else .bad
    | none => .bad
  | _ => .bad
def oLenK : List D → HS → Res D := fun xs s => match xs with
  | [x] => match getK s x with
    | some kvs => .ok (.int kvs.length) s
    | none => .bad
  | _ => .bad
def dispL : List (SE × SE) → Sl → HS → Res (List (Key × D))
  | [], _, s => .ok [] s
  | (k, v) :: r, sd, s => (k sd s).bind fun x s1 => (v sd s1).bind fun y s2 => (dispL r sd s2).bind fun ps s3 => match keyOf x with
    | some q => .ok ((q, y) :: ps) s3
    | none => .bad
def dispE (l : List (SE × SE)) : SE := fun sd s => (dispL l sd s).bind fun ps s1 => if ps.length ≤ 15 then .ok (.ref s1.n) (s1.new (.dict (mgK [] ps))) else .bad
section
variable {C : Ct} {X : Cx} {W : WX} {a b e o i ob : Expr} {f fo fi fk fz : SE} {g : SA} {pos p pos' apos cpos : Pos} {μ : Mu} {S : HS} {H : Hp}
theorem getK_rel (R : Rep C μ S H) {d : D} {v : V} {kvs : List (Key × D)} (r : RelD C.K μ H d v) (e : getK S d = some kvs) : ∃ n ad vs, d = .ref n ∧ v = .ref ad ∧ μ n = some ad ∧ H ad = some (.dK vs) ∧ RelM C.K μ H kvs vs := by
  unfold getK at e
  split at e
  · rename_i n
    split at e
    · rename_i kvs' e0
      cases e
      obtain ⟨ad, rfl, hm⟩ := r
      obtain ⟨ob, e1, q⟩ := R.obj n ad hm
      rw [e0] at e1; cases e1
      obtain ⟨vs, q1, q2⟩ := q
      exact ⟨n, ad, vs, rfl, rfl, hm, q1, q2⟩
    · cases e
  · cases e
theorem ldnew : LE C X W (.Dict [] [] pos) dnewE := PE.imp pe_dnewK fun σ H Q ⟨μ, sd, S, R, rs, h⟩ => fun p hp => by
  have g := G.newM (u := .dK []) R hp
  exact Good.ok h g (R.newM hp ⟨[], upd_same, rfl⟩) ⟨p, rfl, muNew_self⟩
theorem ldget (hu : X.A.units + 1 < cLine) (ho : LE C X W o fo) (hi : LE C X W i fi) (hs : NoSl i := by exact fun _ _ => rfl) : LE C X W (.Subscript o i pos) (b2 fo fi oDGet) := PE.imp (pe_dget hu ho hi hs) fun σ H Q ⟨μ, sd, S, R, rs, h⟩ => by
  refine Lift.step _ Stable.true R rs trivial h fun x H1 μ1 S1 dx g1 R1 rs1 _ rx h1 => ?_
  refine Lift.step _ (Stable.rel (d := dx) (v := x)) R1 rs1 rx h1 fun y H2 μ2 S2 dy g2 R2 rs2 rx2 ry h2 => ?_
  unfold oDGet at h2
  split at h2
  · rename_i kvs q e1 e2
    obtain ⟨n, ad, vs, rfl, rfl, hm, q1, q2⟩ := getK_rel R2 rx2 e1
    have := keyOf_rel ry e2
    subst this
    split at h2
    · rename_i d e3
      obtain ⟨v, e4, rv⟩ := (q2.find q).2 d e3
      exact ⟨ad, v, rfl, e4 ▸ DGet.k q1, h2.ok .refl R2 rv⟩
    · exact h2.elim
  · exact h2.elim
theorem lift_din (neg : Bool) {σ : L2.St} {Q : VK} (h : Lift C W (RelD C.K) (b2 fi fo (oDIn neg)) σ H Q) : Lift C W (RelD C.K) fi σ H fun y H1 => Lift C W (RelD C.K) fo σ H1 fun x H2 => ∃ a o, x = .ref a ∧ DGet H2 a y o ∧ Q (.bl (o.isSome != neg)) H2 := by
  obtain ⟨μ, sd, S, R, rs, h⟩ := h
  refine Lift.step _ Stable.true R rs trivial h fun x H1 μ1 S1 dx g1 R1 rs1 _ rx h1 => ?_
  refine Lift.step _ (Stable.rel (d := dx) (v := x)) R1 rs1 rx h1 fun y H2 μ2 S2 dy g2 R2 rs2 rx2 ry h2 => ?_
  unfold oDIn at h2
  split at h2
  · rename_i kvs q e1 e2
    obtain ⟨n, ad, vs, rfl, rfl, hm, q1, q2⟩ := getK_rel R2 ry e1
    have := keyOf_rel rx2 e2
    subst this
    refine ⟨ad, _, rfl, DGet.k q1, ?_⟩
    have e3 : (valV vs q).isSome = (lkK kvs q).isSome := by
      cases e4 : lkK kvs q with
      | none => rw [(q2.find q).1 e4]; rfl
      | some d => obtain ⟨v, e5, _⟩ := (q2.find q).2 d e4; rw [e5]; rfl
    rw [e3]
    exact h2.ok .refl R2 rfl
  · exact h2.elim
theorem ldin (hu : X.A.units + 1 < cLine) (hi : LE C X W i fi) (ho : LE C X W o fo) (hb : behindInMarks .In o = false := by rfl) : LCmp C X W (.Compare i [.In] [o] pos) (b2 fi fo (oDIn false)) :=
  have k : ∀ {σ H Q}, Lift C W (RelD C.K) (b2 fi fo (oDIn false)) σ H Q → tDIn (Lift C W (RelD C.K) fi) (Lift C W (RelD C.K) fo) σ H Q := fun h => by simpa only [tDIn, Bool.bne_false] using lift_din false h
  ⟨PE.imp (pe_cmp (pc_din hu hi ho) hb) fun _ _ _ h => k h, PT.imp (pt_cmp (pc_din hu hi ho) hb) fun _ _ _ h => k h.tb⟩
theorem ldnin (hu : X.A.units + 1 < cLine) (hi : LE C X W i fi) (ho : LE C X W o fo) (hb : behindInMarks .NotIn o = false := by rfl) : LCmp C X W (.Compare i [.NotIn] [o] pos) (b2 fi fo (oDIn true)) :=
  have k : ∀ {σ H Q}, Lift C W (RelD C.K) (b2 fi fo (oDIn true)) σ H Q → tDNotIn (Lift C W (RelD C.K) fi) (Lift C W (RelD C.K) fo) σ H Q := fun h => by simpa only [tDNotIn, Bool.bne_true] using lift_din true h
  ⟨PE.imp (pe_cmp (pc_dnotin hu hi ho) hb) fun _ _ _ h => k h, PT.imp (pt_cmp (pc_dnotin hu hi ho) hb) fun _ _ _ h => k h.tb⟩
theorem sdput (hu : X.A.units + 1 < cLine) (ho : LE C X W o fo) (hi : LE C X W i fi) (hv : LE C X W e f) (hs : swapsWith e (some (.Subscript o i pos')) pos.line X.env = pure false := by rfl) : LS C X W (.Assign [.Subscript o i pos'] e pos) (dputS fo fi f) := PS.imp (ps_dput hu ho hi hv hs) fun Z σ H ⟨μ, sd, S, R, rs, h⟩ => by
  refine LiftS.step _ Stable.true R rs trivial h fun x H1 μ1 S1 dx g1 R1 rs1 _ rx h1 => ?_
  refine LiftS.step _ (Stable.rel (d := dx) (v := x)) R1 rs1 rx h1 fun y H2 μ2 S2 dy g2 R2 rs2 rx2 ry h2 => ?_
  refine LiftS.step _ (Stable.and (Stable.rel (d := dx) (v := x)) (Stable.rel (d := dy) (v := y))) R2 rs2 ⟨rx2, ry⟩ h2 fun z H3 μ3 S3 dz g3 R3 rs3 rxy rz h3 => ?_
  split at h3
  · rename_i n
    split at h3
    · rename_i kvs q e0 e2
      split at h3
      · rename_i hl
        obtain ⟨ad, rfl, hm⟩ := rxy.2
        obtain ⟨ob, e6, qq⟩ := R3.obj n ad hm
        rw [e0] at e6; cases e6
        obtain ⟨vs, q1, q2⟩ := qq
        have := keyOf_rel rz e2
        subst this
        have gg := G.put (u := .dK (putK vs q x)) R3 hm
        exact ⟨ad, _, rfl, DPut.k q1 (by rw [← q2.len]; exact hl), h3.nx gg (R3.put hm ⟨_, upd_same, RelM.mono gg _ _ (q2.put rxy.1)⟩) (rs3.mono gg)⟩
      · exact h3.elim
    · exact h3.elim
  · exact h3.elim
theorem ldget2 (hu : X.A.units + 1 < cLine) {k z : Expr} (ho : LE C X W o fo) (hk : LE C X W k fk) (hz : LE C X W z fz) (m : M2 X o "get" apos k z cpos) : LE C X W (.Call (.Attribute o "get" apos) [k, z] [] cpos) (dget2E fo fk fz) := PE.imp (pe_dget2 hu ho hk hz m) fun σ H Q ⟨μ, sd, S, R, rs, h⟩ => by
  refine Lift.step _ Stable.true R rs trivial h fun x H1 μ1 S1 dx g1 R1 rs1 _ rx h1 => ?_
  split at h1
  · rename_i kvs0 e0
    obtain ⟨n, ad, vs, rfl, rfl, hm, q1, q2⟩ := getK_rel R1 rx e0
    refine ⟨ad, rfl, .inl ⟨vs, .inl q1⟩, ?_⟩
    refine Lift.step _ (Stable.rel (d := .ref n) (v := .ref ad)) R1 rs1 rx h1 fun y H2 μ2 S2 dy g2 R2 rs2 rx2 ry h2 => ?_
    refine Lift.step _ (Stable.and (Stable.rel (d := .ref n) (v := .ref ad)) (Stable.rel (d := dy) (v := y))) R2 rs2 ⟨rx2, ry⟩ h2 fun w H3 μ3 S3 dw g3 R3 rs3 rxy rw' h3 => ?_
    split at h3
    · rename_i kvs q e1 e2
      obtain ⟨n', ad', vs', en, ead, hm', q1', q2'⟩ := getK_rel R3 rxy.1 e1
      cases en; cases ead
      have := keyOf_rel rxy.2 e2
      subst this
      refine ⟨_, DGet.k q1', ?_⟩
      refine h3.ok .refl R3 ?_
      cases e4 : lkK kvs q with
      | none => rw [(q2'.find q).1 e4]; exact rw'
      | some d => obtain ⟨v, e5, rv⟩ := (q2'.find q).2 d e4; rw [e5]; exact rv
    · exact h3.elim
  · exact h1.elim
theorem ldpop1 {k : Expr} (ho : LE C X W o fo) (hk : LE C X W k fk) (m : M1 X o "pop" apos k cpos) : LE C X W (.Call (.Attribute o "pop" apos) [k] [] cpos) (dpop1E fo fk) := PE.imp (pe_dpop1 ho hk m) fun σ H Q ⟨μ, sd, S, R, rs, h⟩ => by
  refine Lift.step _ Stable.true R rs trivial h fun x H1 μ1 S1 dx g1 R1 rs1 _ rx h1 => ?_
  split at h1
  · rename_i kvs0 e0
    obtain ⟨n, ad, vs, rfl, rfl, hm, q1, q2⟩ := getK_rel R1 rx e0
    refine ⟨ad, rfl, .inl ⟨vs, .inl q1⟩, ?_⟩
    refine Lift.step _ (Stable.rel (d := .ref n) (v := .ref ad)) R1 rs1 rx h1 fun y H2 μ2 S2 dy g2 R2 rs2 rx2 ry h2 => ?_
    have h3 : Good C W (RelD C.K) μ2 σ H2 Q (match S2.h n with
      | some (.dict kvs) => (match keyOf dy with
        | some q => match lkK kvs q with
          | some d => .ok d (S2.put n (.dict (drK kvs q)))
          | none => .bad
        | none => .bad)
      | _ => .bad) := h2
    split at h3
    · rename_i kvs e1
      split at h3
      · rename_i q e2
        split at h3
        · rename_i d e3
          obtain ⟨n', ad', vs', en, ead, hm', q1', q2'⟩ := getK_rel (kvs := kvs) R2 rx2 (by unfold getK; simp only [e1])
          cases en; cases ead
          have := keyOf_rel ry e2
          subst this
          obtain ⟨v, e4, rv⟩ := (q2'.find q).2 d e3
          have gg := G.put (u := .dK (dropK vs' q)) R2 hm'
          exact ⟨vs', q, v, q1', rfl, e4, h3.ok gg (R2.put hm' ⟨_, upd_same, RelM.mono gg _ _ (q2'.drop q)⟩) (RelD.mono gg _ _ rv)⟩
        · exact h3.elim
      · exact h3.elim
    · exact h3.elim
  · exact h1.elim
theorem keyInts {ks : List Key} : ∀ {ns : List Int}, allP keyInt ks = some ns → ks = ns.map Sum.inl := by
  induction ks with
  | nil => intro ns h; cases h; rfl
  | cons k ks ih =>
    intro ns h
    rcases allP_some h with ⟨e, _⟩ | ⟨d', r', p, q, e, rfl, h1, h2⟩
    · cases e
    · cases e
      cases k <;> cases h1
      rw [ih h2]; rfl
theorem onSortedK (al : Bool) : ON C W (fun xs H Q => ∃ (a : Addr) (kvs : List (Key × V)) (ks : List Int), xs = [.ref a] ∧ Rd H a (.dK kvs) ∧ kvs.map (·.1) = ks.map Sum.inl ∧ ks.length < 64 ∧
    ∀ (ys : List Int) (p : Addr), ys.Perm ks → ys.Pairwise (· ≤ ·) → H p = none → Q (.ref p) (upd H p (.lst (ys.map V.int)))) (oSortedK al) := by
  intro μ S H xs ds σ Q R r h
  unfold oSortedK at h
  split at h
  · split at h
    · rename_i x _ ns e0
      obtain ⟨v, rfl, rv⟩ := r.l1
      split at h
      · rename_i hl
        cases e1 : getK S x with
        | none => rw [e1] at e0; cases e0
        | some kvs =>
          rw [e1] at e0
          obtain ⟨n, ad, vs, rfl, rfl, hm, q1, q2⟩ := getK_rel R rv e1
          exact ⟨ad, vs, ns, rfl, .inl q1, by rw [q2.keys]; exact keyInts e0, hl, fun ns' p hp hs hn => by rw [sortZ_of hp hs]; exact mkL_good R (RelDs.ints _) h hn⟩
      · exact h.elim
    · exact h.elim
  · exact h.elim
/-- one part evaluated; what is wanted is told from an earlier state -/
theorem Lift.stepB {α β γ δ : Type} {rel : Mu → Hp → α → β → Prop} {rel' : Mu → Hp → γ → δ → Prop} {f : Sl → HS → Res α} {k : α → HS → Res γ} {μ0 : Mu} {H0 : Hp} {sd : Sl} {σ : L2.St} {Q : δ → Hp → Prop} {Q1 : β → Hp → Prop}
    (gb : G C.K μ0 H0 μ H) (R : Rep C μ S H) (rs : RelS C.K μ H sd σ) (h : Good C W rel' μ0 σ H0 Q ((f sd S).bind k))
    (hk : ∀ b H1 μ1 S1 a, G C.K μ H μ1 H1 → Rep C μ1 S1 H1 → rel μ1 H1 a b → Good C W rel' μ0 σ H0 Q (k a S1) → Q1 b H1) : Lift C W rel f σ H Q1 := by
  refine ⟨μ, sd, S, R, rs, ?_⟩
  cases e : f sd S with
  | ok a S1 => rw [e] at h; exact fun μ1 H1 b g R1 r => hk b H1 μ1 S1 a g R1 r h
  | exc c S1 => rw [e] at h; exact fun μ1 H1 g R1 => h μ1 H1 (gb.trans g) R1
  | bad => rw [e] at h; exact h
theorem lpairs {sd : Sl} {σ : L2.St} {Q : VK} {Q2 : List (V × V) → Hp → Prop} {μ0 : Mu} {H0 : Hp} (rs0 : RelS C.K μ0 H0 sd σ) : ∀ (l : List (SE × SE)) (kf : List (Key × D) → HS → Res D) (P : Mu → Hp → Prop) (hP : Stable C.K P) (μ : Mu) (S : HS) (H : Hp), Rep C μ S H → G C.K μ0 H0 μ H → P μ H →
    Good C W (RelD C.K) μ0 σ H0 Q ((dispL l sd S).bind kf) → (∀ μ' S' H' ps vs, Rep C μ' S' H' → G C.K μ0 H0 μ' H' → P μ' H' → RelM C.K μ' H' ps vs → Good C W (RelD C.K) μ0 σ H0 Q (kf ps S') → Q2 (vs.map fun kv => (kV kv.1, kv.2)) H') →
    tPairs (l.map fun q => (Lift C W (RelD C.K) q.1, Lift C W (RelD C.K) q.2)) σ H Q2
  | [], kf, P, hP, μ, S, H, R, gb, p, h, k => k μ S H [] [] R gb p rfl h
  | (fk, fv) :: l, kf, P, hP, μ, S, H, R, gb, p, h, k => by
    have h' : Good C W (RelD C.K) μ0 σ H0 Q ((fk sd S).bind fun x s1 => (fv sd s1).bind fun y s2 => (dispL l sd s2).bind fun ps s3 => match keyOf x with
      | some q => kf ((q, y) :: ps) s3
      | none => .bad) := by
      have e : ((dispL ((fk, fv) :: l) sd S).bind kf) = ((fk sd S).bind fun x s1 => (fv sd s1).bind fun y s2 => (dispL l sd s2).bind fun ps s3 => match keyOf x with
      | some q => kf ((q, y) :: ps) s3
      | none => .bad) := by
        show (((fk sd S).bind fun x s1 => (fv sd s1).bind fun y s2 => (dispL l sd s2).bind fun ps s3 => match keyOf x with
          | some q => .ok ((q, y) :: ps) s3
          | none => .bad).bind kf) = _
        cases fk sd S with
        | exc _ _ => rfl
        | bad => rfl
        | ok x s1 =>
          simp only [bind_ok]
          cases fv sd s1 with
          | exc _ _ => rfl
          | bad => rfl
          | ok y s2 =>
            simp only [bind_ok]
            cases dispL l sd s2 with
            | exc _ _ => rfl
            | bad => rfl
            | ok ps s3 => simp only [bind_ok]; cases keyOf x <;> rfl
      rw [e] at h; exact h
    refine Lift.stepB gb R (rs0.mono gb) h' fun x H1 μ1 S1 dx g1 R1 rx h1 => ?_
    refine Lift.stepB (gb.trans g1) R1 (rs0.mono (gb.trans g1)) h1 fun y H2 μ2 S2 dy g2 R2 ry h2 => ?_
    refine lpairs rs0 l _ (fun μ H => P μ H ∧ RelD C.K μ H dx x ∧ RelD C.K μ H dy y) (Stable.and hP (Stable.and (Stable.rel (d := dx) (v := x)) (Stable.rel (d := dy) (v := y)))) μ2 S2 H2 R2 ((gb.trans g1).trans g2) ⟨hP _ _ _ _ g2 (hP _ _ _ _ g1 p), RelD.mono g2 _ _ rx, ry⟩ h2 fun μ' S' H' ps vs R' gb' p' r' hh => ?_
    split at hh
    · rename_i q e
      have := keyOf_rel p'.2.1 e
      subst this
      exact k μ' S' H' ((q, dy) :: ps) ((q, y) :: vs) R' gb' p'.1 ⟨y, vs, rfl, p'.2.2, r'⟩ hh
    · exact hh.elim
mutual
theorem RelD.dk {K : PySem.W.Frag} {p : Addr} {n : Nat} {ks : List (Key × V)} {u : HO} (hp : H p = some (.dK ks)) (hn : ∀ m a, μ m = some a → m ≠ n) : ∀ (d : D) (v : V), RelD K μ H d v → RelD K (muNew μ n p) (upd H p u) d v
  | .non, v, h => h
  | .bl b, v, h => h
  | .int i, v, h => h
  | .str s, v, h => h
  | .tup ds, v, ⟨a, vs, e, t, r⟩ => ⟨a, vs, e, by
      rcases t with (t | ⟨o, t⟩) | t
      · exact .inl (.inl (by rw [upd_ne (ne_of t hp (fun z => HO.noConfusion z))]; exact t))
      · exact .inl (.inr ⟨o, by rw [upd_ne (ne_of t hp (fun z => HO.noConfusion z))]; exact t⟩)
      · exact .inr t, RelDs.dk hp hn ds vs r⟩
  | .lst ds, v, ⟨a, vs, e, t, m, r⟩ => ⟨a, vs, e, by
      rw [upd_ne (ne_of t hp (fun z => HO.noConfusion z))]; exact t, ⟨fun j => by
      have na : a ≠ p := ne_of t hp (fun z => HO.noConfusion z)
      show (if j = n then some p else μ j) ≠ some a
      split
      · intro q; exact na (Option.some.inj q).symm
      · exact m.1 j, m.2⟩, RelDs.dk hp hn ds vs r⟩
  | .scr ds, v, ⟨a, vs, e, t, r⟩ => ⟨a, vs, e, t.imp (fun t => by
      have na : a ≠ p := by
        rcases t.1 with t | ⟨o, t⟩
        · exact ne_of t hp (fun z => HO.noConfusion z)
        · exact ne_of t hp (fun z => HO.noConfusion z)
      refine ⟨?_, fun j => ?_, t.2.2⟩
      · rcases t.1 with t | ⟨o, t⟩
        · exact .inl (by rw [upd_ne na]; exact t)
        · exact .inr ⟨o, by rw [upd_ne na]; exact t⟩
      · show (if j = n then some p else μ j) ≠ some a
        split
        · intro q; exact na (Option.some.inj q).symm
        · exact t.2.1 j) fun t => t, RelDs.dk hp hn ds vs r⟩
  | .ref m, v, ⟨a, e, q⟩ => ⟨a, e, by
      show (if m = n then some p else μ m) = some a
      rw [if_neg (hn m a q)]; exact q⟩
theorem RelDs.dk {K : PySem.W.Frag} {p : Addr} {n : Nat} {ks : List (Key × V)} {u : HO} (hp : H p = some (.dK ks)) (hn : ∀ m a, μ m = some a → m ≠ n) : ∀ (ds : List D) (vs : List V), RelDs K μ H ds vs → RelDs K (muNew μ n p) (upd H p u) ds vs
  | [], vs, h => h
  | d :: ds, vs, ⟨v, r, e, h1, h2⟩ => ⟨v, r, e, RelD.dk hp hn d v h1, RelDs.dk hp hn ds r h2⟩
end
/-- an unmapped dict that was laid empty is filled and mapped -/
theorem dict_done {σ : L2.St} {Q : VK} {p : Addr} {μ0 : Mu} {H0 : Hp} {kvs : List (Key × D)} {vs ks : List (Key × V)} {S : HS} (R : Rep C μ S H) (hn : H0 p = none) (nb : ¬ μ0.B p) (hp : H p = some (.dK ks)) (hu : ∀ n, μ n ≠ some p) (g : G C.K μ0 H0 μ H) (r : RelM C.K μ H kvs vs)
    (h : Good C W (RelD C.K) μ0 σ H0 Q (.ok (.ref S.n) (S.new (.dict kvs)))) : Q (.ref p) (upd H p (.dK vs)) := by
  have hm : ∀ m a, μ m = some a → m ≠ S.n := fun m a e => Nat.ne_of_lt (R.out e)
  have un : ∀ n, muNew μ S.n p n = (if n = S.n then some p else μ n) := fun _ => rfl
  have kR : ∀ d v, RelD C.K μ H d v → RelD C.K (muNew μ S.n p) (upd H p (.dK vs)) d v := fun d v => RelD.dk hp hm d v
  refine h (muNew μ S.n p) (upd H p (.dK vs)) _ ⟨fun n a e => muNew_old R (g.mu n a e), fun a o e n => ⟨by rw [upd_ne (ne_of_none e hn)]; exact (g.fr a o e n).1, fun m => ?_⟩, fun a us t => ?_, g.b⟩ ⟨fun n => ?_, fun n m a h1 h2 => ?_, fun n a e => ?_, fun a b => ?_⟩ ⟨p, rfl, muNew_self⟩
  · rw [un]; split
    · intro q; cases q; rw [hn] at e; cases e
    · exact (g.fr a o e n).2 m
  · rcases g.tp a us t with (t | ⟨o, t⟩) | t
    · exact .inl (.inl (by rw [upd_ne (ne_of t hp (fun z => HO.noConfusion z))]; exact t))
    · exact .inl (.inr ⟨o, by rw [upd_ne (ne_of t hp (fun z => HO.noConfusion z))]; exact t⟩)
    · exact .inr t
  · show _ ↔ n < S.n + 1
    constructor
    · rintro ⟨a, e⟩
      rw [un] at e; split at e
      · omega
      · have := R.out e; omega
    · intro e
      by_cases q : n = S.n
      · exact ⟨p, by rw [un, if_pos q]⟩
      · obtain ⟨a, z⟩ := (R.dom n).mpr (by omega)
        exact ⟨a, muNew_old R z⟩
  · rw [un] at h1 h2
    split at h1 <;> split at h2
    · omega
    · cases h1; exact absurd h2 (hu m)
    · cases h2; exact absurd h1 (hu n)
    · exact R.inj n m a h1 h2
  · rw [un] at e; split at e
    · rename_i q; subst q; cases e
      exact ⟨.dict kvs, if_pos rfl, vs, upd_same, RelM.of kR _ _ r⟩
    · rename_i q
      obtain ⟨o, z, ro⟩ := R.obj n a e
      exact ⟨o, (if_neg q).trans z, ObjRel.of kR (upd_ne fun w => hu n (by rw [← w]; exact e)) ro⟩
  · have np : a ≠ p := fun q => nb (by rw [← g.b, ← q]; exact b)
    obtain ⟨⟨x, e⟩, n⟩ := R.ban a b
    refine ⟨⟨x, by rw [upd_ne np]; exact e⟩, fun m => ?_⟩
    rw [un]; split
    · intro q; exact np (Option.some.inj q).symm
    · exact n m
theorem ldisp {keys : List (Option Expr)} {values : List Expr} {l : List (SE × SE)} (h : PPs X pos keys values (l.map fun q => (Lift C W (RelD C.K) q.1, Lift C W (RelD C.K) q.2))) (hall : keys.all (·.isSome) = true) (hl : keys.length = values.length) (h0 : keys ≠ []) (h15 : keys.length ≤ 15) :
    LE C X W (.Dict keys values pos) (dispE l) := PE.imp (pe_disp h hall hl h0 h15) fun σ H Q ⟨μ, sd, S, R, rs, h⟩ => fun p hp => by
  have g0 := G.new (u := .dK []) R hp
  have R0 := R.new (u := .dK []) hp
  have u0 : ∀ n, μ n ≠ some p := (R.free hp).1
  refine lpairs rs l _ (fun μ' H' => H' p = some (.dK []) ∧ ∀ n, μ' n ≠ some p) (fun _ _ _ _ g q => g.fr p _ q.1 q.2) μ S _ R0 g0 ⟨upd_same, u0⟩ h fun μ' S' H' ps vs R' gb q r hh => ?_
  split at hh
  · rename_i hz
    refine ⟨q.1, vs, rfl, by rw [← r.len]; exact hz, ?_⟩
    have r0 : RelM C.K μ' H' [] [] := rfl
    exact dict_done R' hp (R.free hp).2 q.1 q.2 gb (RelM.merge r r0) hh
  · exact hh.elim
end
end DL
end
section
/-! DL9: defs, methods and classes as they are handed on, the end of a law. -/
namespace DL
open PySem PySem.Spec PyProof.Rows L2

structure FnI (C : Ct) (P : Program) (mg : Str → Option Value) (base : Heap) (k : Nat) (x : Str) (n : Nat) (F : FN) : Prop where
  ex : ∃ (f : Addr) (fd : FuncData) (ps : List Str), FnOk P C.w C.K mg base (L2.CX P C.w) k f fd ps (spD C n F) ∧ mg x = some (.ref f) ∧ PySem.W.keepIn C.K (.ref f) = true ∧ Binds C.K fd ps []
structure MtI (C : Ct) (P : Program) (mg : Str → Option Value) (base : Heap) (k : Nat) (c : String) (m : Str) (n : Nat) (F : FN) : Prop where
  ex : ∃ (f : Addr) (fd : FuncData) (ps : List Str), FnOk P C.w C.K mg base (L2.CX P C.w) k f fd ps (spD C n F) ∧ Meth C.K (C.cA c) m f ∧ Cls C.K (C.cA c) ∧ Binds C.K fd ps []
structure MkI (C : Ct) (P : Program) (mg : Str → Option Value) (base : Heap) (k : Nat) (c : String) (x : Str) (n : Nat) (F : FN) : Prop where
  ex : ∃ (f : Addr) (fd : FuncData) (ps : List Str), FnOk P C.w C.K mg base (L2.CX P C.w) k f fd ps (spD C n F) ∧ Mk C.K (C.cA c) f ∧ mg x = some (.ref (C.cA c)) ∧ Binds C.K fd ps []
section
variable {C : Ct} {X : Cx} {W : WX} {e ob : Expr} {es : List Expr} {fo : SE} {g : SA} {pos p apos : Pos} {x m : Str} {k n : Nat} {F : FN}
theorem lcallI (I : FnI C X.prog X.mg X.base k x n F) (o : Ok C X W) (hr : Room k X.A) (hg : Gl X x)
    (ha : LA C X W (e :: es) g) (hdb : (x == ("__debug__" : Str)) = false := by decide) (he : starEach (e :: es) X.env = (false, eval e X.env) :: starEach es X.env := by rfl) (hpl : (backTo pos (starEach es X.env)).any (·.1) = false := by rfl) :
    LE C X W (.Call (.Name x p) (e :: es) [] pos) (bN g (callD n F)) := by
  obtain ⟨f, fd, ps, h1, h2, h3, h4⟩ := I.ex
  rw [← o.K, ← o.w] at h1
  rw [← o.K] at h3 h4
  exact lcall h1 o hr hg h2 h3 h4 ha hdb he hpl
theorem lmethI {c : String} {pl : Sem Bool} (I : MtI C X.prog X.mg X.base k c m n F) (o : Ok C X W) (hr : Room k X.A) (ho : LE C X W ob fo) (ha : LA C X W (e :: es) g)
    (hst : starEach (e :: es) X.env = (false, eval e X.env) :: starEach es X.env := by rfl) (hpl : (backTo pos (starEach es X.env)).any (·.1) = false := by rfl)
    (ht : eval (.Call (.Attribute ob m apos) (e :: es) [] pos) X.env = (do
      let ov ← eval ob X.env
      standAt apos.atName
      let (f, first) ← holding [ov] (getMethod ov m pl)
      callWith pos f first (backTo pos (starEach (e :: es) X.env)) (backToKw pos (keywordEach [] X.env))) := by rfl) :
    LE C X W (.Call (.Attribute ob m apos) (e :: es) [] pos) (methE c m fo g (callD n F)) := by
  obtain ⟨f, fd, ps, h1, h2, h3, h4⟩ := I.ex
  rw [← o.K, ← o.w] at h1
  rw [← o.K] at h2 h3 h4
  exact lmeth o h3 h2 h1 hr h4 ho ha hst hpl ht
theorem lmethI0 {c : String} {pl : Sem Bool} (I : MtI C X.prog X.mg X.base k c m n F) (o : Ok C X W) (hr : Room k X.A) (ho : LE C X W ob fo)
    (ht : eval (.Call (.Attribute ob m apos) [] [] pos) X.env = (do
      let ov ← eval ob X.env
      standAt apos.atName
      let (f, first) ← holding [ov] (getMethod ov m pl)
      callWith pos f first (backTo pos (starEach [] X.env)) (backToKw pos (keywordEach [] X.env))) := by rfl) :
    LE C X W (.Call (.Attribute ob m apos) [] [] pos) (methE c m fo anil (callD n F)) := by
  obtain ⟨f, fd, ps, h1, h2, h3, h4⟩ := I.ex
  rw [← o.K, ← o.w] at h1
  rw [← o.K] at h2 h3 h4
  exact lmeth0 o h3 h2 h1 hr h4 ho ht
theorem lmakeI {c : String} (I : MkI C X.prog X.mg X.base k c x n F) (o : Ok C X W) (hr : Room (k + 1) X.A) (hg : Gl X x)
    (ha : LA C X W (e :: es) g) (hdb : (x == ("__debug__" : Str)) = false := by decide) (he : starEach (e :: es) X.env = (false, eval e X.env) :: starEach es X.env := by rfl) (hpl : (backTo pos (starEach es X.env)).any (·.1) = false := by rfl) :
    LE C X W (.Call (.Name x p) (e :: es) [] pos) (makE c g (callD n F)) := by
  obtain ⟨f, fd, ps, h1, h2, h3, h4⟩ := I.ex
  rw [← o.K, ← o.w] at h1
  rw [← o.K] at h2 h4
  exact lmake o h2 h1 hr hg h3 h4 ha hdb he hpl
theorem lmakeI0 {c : String} (I : MkI C X.prog X.mg X.base k c x n F) (o : Ok C X W) (hr : Room (k + 1) X.A) (hg : Gl X x)
    (hdb : (x == ("__debug__" : Str)) = false := by decide) : LE C X W (.Call (.Name x p) [] [] pos) (makE c anil (callD n F)) := by
  obtain ⟨f, fd, ps, h1, h2, h3, h4⟩ := I.ex
  rw [← o.K, ← o.w] at h1
  rw [← o.K] at h2 h4
  exact lmake0 o h2 h1 hr hg h3 h4 hdb
end
theorem Room.u65 {k : Nat} {A : Around} (r : Room k A) : A.units + 65 < cLine := by have := r.un; omega
theorem Room.u1 {k : Nat} {A : Around} (r : Room k A) : A.units + 1 < cLine := by have := r.un; omega
theorem sbad {C : Ct} {X : Cx} {W : WX} {st : List Stmt} : LSs C X W st (fun _ _ => .bad) := PSs.imp pss_never fun Z σ H ⟨μ, sd, S, R, rs, h⟩ => h.elim
theorem lglob {C : Ct} {X : Cx} {W : WX} {x : Str} {pos : Pos} {i : Int} (hg : Gl X x) (hm : ∃ t, X.mg x = some (.int i t)) (hd : (x == ("__debug__" : Str)) = false := by decide) : LE C X W (.Name x pos) (c_ (.int i)) := by
  obtain ⟨t, e⟩ := hm
  exact lc (fun _ _ => rfl) (pe_glob hg e ⟨t, rfl⟩ hd)
theorem exm_of {K : PySem.W.Frag} {c h : Addr} {b : Bool} (h1 : PySem.W.subIn K (.ref c) (.type "BaseException") = some true) (h2 : PySem.W.isClsIn K h = true) (h3 : PySem.W.typeIn K (.ref h) = some (.type "type")) (h4 : PySem.W.subIn K (.ref c) (.ref h) = some b) (h5 : PySem.W.subIn K (.ref h) (.type "BaseException") = some true) :
    PySem.W.exmOne K (.ref c) (.ref h) = some b := by
  have e1 : (PySem.W.subIn K (.ref h) (.type "BaseException") == some true) = true := by rw [h5] <;> rfl
  have e2 : ((PySem.W.clsIn K h).isSome && PySem.W.typeIn K (.ref h) == some (.type "type")) = true := by
    have h2' : (PySem.W.clsIn K h).isSome = true := h2
    rw [h2', h3] <;> rfl
  show (if (PySem.W.subIn K (.ref h) (.type "BaseException") == some true) = true then (if ((PySem.W.clsIn K h).isSome && PySem.W.typeIn K (.ref h) == some (.type "type")) = true then PySem.W.subIn K (.ref c) (.ref h) else none) else none) = some b
  rw [if_pos e1, if_pos e2]
  exact h4
/-- the empty heap -/
def S0 : HS := ⟨fun _ => none, 0⟩
def spLaw (K : PySem.W.Frag) : Sp := fun vs H Q _ => ∃ (a : Addr) (ns : List Int), vs = [.ref a] ∧ SqL K H a (ns.map V.int) ∧ ns.length ≤ 63 ∧ ∀ H', Q (.bl true) H'
theorem law_imp {C : Ct} {P : Program} {mg : Str → Option Value} {base : Heap} {k : Nat} {f : Addr} {fd : FuncData} {F : FN} (FF : FnOk P C.w C.K mg base (L2.CX P C.w) k f fd ["script"] (spD C 1 F))
    (ht : ∀ ns : List Int, ns.length ≤ 63 → ∃ S', F [.scr (ns.map .int)] S0 = .ok (.bl true) S') : FnOk P C.w C.K mg base (L2.CX P C.w) k f fd ["script"] (spLaw C.K) := by
  refine FF.imp fun vs H Q E ⟨a, ns, e, hS, hl, q⟩ => ?_
  subst e
  obtain ⟨S', e⟩ := ht ns hl
  refine ⟨rfl, ⟨fun _ => none, fun _ => False⟩, [.scr (ns.map .int)], S0, ⟨fun n => ⟨fun ⟨_, z⟩ => (nomatch z), fun z => absurd z (Nat.not_lt_zero n)⟩, fun _ _ _ z => (nomatch z), fun _ _ z => (nomatch z), fun _ z => z.elim⟩, ?_, ?_⟩
  · refine ⟨.ref a, [], rfl, ⟨a, ns.map V.int, rfl, ?_, RelDs.ints ns⟩, rfl⟩
    rcases hS with h | h
    · exact .inl ⟨h, fun _ z => (nomatch z), fun z => z⟩
    · exact .inr h
  · rw [e]
    intro μ' H' b g R r
    cases (show b = .bl true from r)
    exact q H'
theorem walk {kl : Nat} {l : PySem.W.OpenLaw} {q : Program} {loose : List Str} {XP : (Str → Option Value) → Heap → Prop} {YP : World → Heap → Prop} {d : DefRec} {K : Params → PySem.W.Frag} (hk : kl ≤ 24) (hn : l.most = some 63) (hdf : d.params.defaults = [])
    (hY : ∀ (w : World) (h : Heap), YP w h → (K w.params).In h)
    (F : ∀ (w : World) (mg : Str → Option Value) (fa : Addr) (h : Heap), (K w.params).In h → h.Ns mainGlobals mg → mg d.name = some (.ref fa) →
      ∃ fd : FuncData, (∀ (s : Shared) (u : Value), BindsTo s fd ⟨[u], []⟩ [("script", u)]) ∧ ∀ base : Heap, (K w.params).In base → base.Ns mainGlobals mg → FnOk l.prog w (K w.params) mg base (L2.CX l.prog w) kl fa fd ["script"] (spLaw (K w.params))) :
    PySem.W.WalkO q loose XP YP l.row.toRowW d [] (fun f vs => PySem.call f vs) :=
  L2.walk_of (n := 63) (k := kl) (x := "script") (CX := fun w => L2.CX l.prog w) (sp := fun w => spLaw (K w.params)) hn (by decide) hdf ((show Room 24 callerA from ⟨rfl, by decide, by decide⟩).mono hk) hY F (fun _ _ a ns hl _ hS => ⟨a, ns, rfl, hS, hl, fun _ => rfl⟩)
    fun w H s e s' h => by
      obtain ⟨_, _, _, _, _, _, _, _, _, _, _, _, z⟩ := h
      exact z.elim
end DL
end
section
/-! DL10: dicts whose keys are texts and tuples together. -/
namespace DL
open PySem PySem.Spec PyProof.Rows L2
open Sem (wp)
/-- these keys stand in a dict's entries -/
structure EKeys (h : Heap) (w : World) (es : Array DictEntry) (ks : List NestedKey) : Prop where
  len : ks.length = es.size
  at_ : ∀ (j : Nat) (e : DictEntry), es[j]? = some e → ∃ q, ks[j]? = some q ∧ e.hash = q.hash w ∧ q.depth ≤ 8 ∧ NestedIs h q e.key
  nd : ks.Nodup
theorem nd_at {α : Type} {ks : List α} (hn : ks.Nodup) {i j : Nat} {q : α} (h1 : ks[i]? = some q) (h2 : ks[j]? = some q) : i = j := by
  obtain ⟨l1, e1⟩ := List.getElem?_eq_some_iff.mp h1
  obtain ⟨l2, e2⟩ := List.getElem?_eq_some_iff.mp h2
  exact (List.getElem_inj hn).mp (e1.trans e2.symm)
section
variable {prog : Program} {w : World} {A : Around} {E : Value → Shared → Prop} {s : Shared} {d : Addr} {o : Obj} {es : Array DictEntry} {ep : Nat} {ks : List NestedKey} {k : NestedKey} {key : Value}
theorem meqB {x y : NestedKey} {a b : Value} {Q : Bool → Shared → Prop} (hu : A.units + 8 < cLine) (hx : x.depth ≤ 8) (ha : NestedIs s.heap x a) (hb : NestedIs s.heap y b) (h : Q (decide (x = y)) s) : wpAny (model prog w) A (eqBool a b) Q E s :=
  eqAt_key x y A s _ _ ha hb (by omega) _ _ _ _ (by rw [← NestedKey.decide_eq]; exact h)
/-- whether tables tell: they don't -/
theorem mQuiet {stored : List Value} {Q : Bool → Shared → Prop} (h8 : k.depth ≤ 8) (hk : NestedIs s.heap k key) (hs : ∀ v ∈ stored, ∃ q : NestedKey, q.depth ≤ 8 ∧ NestedIs s.heap q v) (h : Q false s) : wpAny (model prog w) A (tableMayTell key stored) Q E s := by
  unfold tableMayTell
  split
  · exact wpAny_pure h
  · refine wpAny_bind (quiet_key k key 8 s hk h8 _ _ _ ?_)
    rw [show (!true) = false from rfl, if_neg Bool.false_ne_true]
    refine wpAny_bind (wpAny_forIn_list _ (fun l r t => t = s ∧ r = (none, ()) ∧ ∀ v ∈ l, ∃ q : NestedKey, q.depth ≤ 8 ∧ NestedIs s.heap q v) _ ?_ ?_ _ _ ⟨rfl, rfl, hs⟩)
    · rintro x l r t ⟨rfl, rfl, hl⟩
      obtain ⟨q, hq, hv⟩ := hl x List.mem_cons_self
      refine wpAny_bind (quiet_key q x 8 t hv hq _ _ _ ?_)
      rw [show (!true) = false from rfl, if_neg Bool.false_ne_true]
      exact wpAny_pure ⟨rfl, rfl, fun v z => hl v (List.mem_cons_of_mem _ z)⟩
    · rintro r t ⟨rfl, rfl, _⟩
      exact wpAny_pure h
abbrev hsh (es : Array DictEntry) (z : Int) (i : Nat) : Bool := (es[i]?.map (·.hash)) == some z
theorem EKeys.hash (ek : EKeys s.heap w es ks) {j : Nat} (hj : ks[j]? = some k) : hsh es (k.hash w) j = true := by
  have hl : j < es.size := by
    have := (List.getElem?_eq_some_iff.mp hj).1
    rw [ek.len] at this; exact this
  obtain ⟨q, h1, h2, _⟩ := ek.at_ j es[j] (Array.getElem?_eq_getElem hl)
  rw [hj] at h1
  cases h1
  simp [hsh, Array.getElem?_eq_getElem hl, h2]
/-- the plain walk -/
theorem mWalk {Q : Option Nat → Shared → Prop} (hu : A.units + 8 < cLine) (hkey : NestedIs s.heap k key) (ho : s.heap.get? d = some o) (hd : o.data = .dict es ep) (ek : EKeys s.heap w es ks)
    (hn : k ∉ ks → Q none s) (hs : ∀ j, ks[j]? = some k → Q (some j) s) : wpAny (model prog w) A (dictWalkPlain d key (k.hash w) es (placesWithHash es.size (fun i => es[i]?.map (·.hash)) (k.hash w))) Q E s := by
  refine wpAny_bind (wpAny_forIn_list _ (fun l b t => t = s ∧ b = (none, ()) ∧ ∃ i, l = (List.range' i (es.size - i)).filter (hsh es (k.hash w)) ∧ i ≤ es.size ∧ ∀ j, j < i → ks[j]? ≠ some k) _ ?_ ?_ _ _
    ⟨rfl, rfl, 0, by rw [placesWithHash, List.range_eq_range', Nat.sub_zero], Nat.zero_le _, fun _ z => absurd z (Nat.not_lt_zero _)⟩)
  · rintro x l b t ⟨rfl, rfl, i, hl, hi, no⟩
    obtain ⟨g1, g2, g3, g4, g5⟩ := filter_range'_cons _ _ _ _ _ hl.symm
    have lt : x < es.size := by omega
    obtain ⟨q, q1, q2, q3, q4⟩ := ek.at_ x es[x] (Array.getElem?_eq_getElem lt)
    have nxt : ¬ q = k → ∃ i, l = (List.range' i (es.size - i)).filter (hsh es (k.hash w)) ∧ i ≤ es.size ∧ ∀ j, j < i → ks[j]? ≠ some k := fun ne =>
      ⟨x + 1, by rw [g5]; congr 2; omega, lt, fun j hj e => by
        rcases Nat.lt_or_ge j i with z | z
        · exact no j z e
        · rcases Nat.lt_or_ge j x with z2 | z2
          · have := g4 j z z2
            rw [ek.hash e] at this; cases this
          · have : j = x := by omega
            rw [this, q1] at e; exact ne (Option.some.inj e)⟩
    simp only [Array.getElem?_eq_getElem lt]
    by_cases hh : (es[x].hash == k.hash w) = true
    · rw [if_pos hh]
      refine wpAny_bind (wpAny_dictEpoch ho hd (wpAny_bind (meqB hu q3 q4 hkey (wpAny_bind (wpAny_dictEpoch ho hd ?_)))))
      show wpAny _ _ (if (ep != ep) = true then _ else _) _ E _
      rw [if_neg (by rw [bne_self_eq_false]; exact Bool.false_ne_true)]
      by_cases e : q = k
      · rw [decide_eq_true e]
        exact wpAny_bind (wpAny_rule (wpAny_pure (wpAny_pure (hs x (e ▸ q1)))))
      · rw [decide_eq_false e]
        exact wpAny_bind (wpAny_rule (wpAny_pure ⟨rfl, rfl, nxt e⟩))
    · rw [if_neg hh]
      refine wpAny_pure ⟨rfl, rfl, nxt fun e => hh ?_⟩
      rw [q2, e]; exact beq_self_eq_true _
  · rintro b t ⟨rfl, rfl, i, hl, hi, no⟩
    refine wpAny_pure (hn fun mem => ?_)
    obtain ⟨j, lt, e⟩ := List.getElem_of_mem mem
    have e' : ks[j]? = some k := by rw [List.getElem?_eq_getElem lt, e]
    rcases Nat.lt_or_ge j i with z | z
    · exact no j z e'
    · have := List.filter_eq_nil_iff.mp hl.symm j (List.mem_range'_1.mpr ⟨z, by rw [← ek.len]; omega⟩)
      exact this (ek.hash e')
/-- what a walk to place i has found -/
def HitAt (ks : List NestedKey) (k : NestedKey) (i : Nat) (hit : Option Nat) : Prop := (hit = none ∧ ∀ j, j < i → ks[j]? ≠ some k) ∨ ∃ j, hit = some j ∧ j < i ∧ ks[j]? = some k
theorem HitAt.upto {p : Nat → Bool} {i x : Nat} {hit : Option Nat} (h : HitAt ks k i hit) (hp : ∀ {j}, ks[j]? = some k → p j = true) (g : ∀ j, i ≤ j → j < x → p j = false) : HitAt ks k x hit ∨ x < i := by
  by_cases hx : x < i
  · exact .inr hx
  · refine .inl ?_
    rcases h with ⟨h0, no⟩ | ⟨j, h1, h2, h3⟩
    · refine .inl ⟨h0, fun j hj e => ?_⟩
      rcases Nat.lt_or_ge j i with z | z
      · exact no j z e
      · have := g j z hj
        rw [hp e] at this; cases this
    · exact .inr ⟨j, h1, by omega, h3⟩
theorem HitAt.next {x : Nat} {q : NestedKey} {hit : Option Nat} (h : HitAt ks k x hit) (hq : ks[x]? = some q) (ne : ¬ q = k) : HitAt ks k (x + 1) hit := by
  rcases h with ⟨h0, no⟩ | ⟨j, h1, h2, h3⟩
  · refine .inl ⟨h0, fun j hj e => ?_⟩
    rcases Nat.lt_or_ge j x with z | z
    · exact no j z e
    · have : j = x := by omega
      rw [this, hq] at e
      exact ne (Option.some.inj e)
  · exact .inr ⟨j, h1, by omega, h3⟩
/-- the walk over texts alone -/
theorem mStr {y : Str} {t : Tok} {Q : Option Nat → Shared → Prop} (hu : A.units + 8 < cLine) (hkey : NestedIs s.heap k (.str y t)) (ho : s.heap.get? d = some o) (hd : o.data = .dict es ep) (ek : EKeys s.heap w es ks)
    (hn : k ∉ ks → Q none s) (hs : ∀ j, ks[j]? = some k → Q (some j) s) : wpAny (model prog w) A (foundByValue d (.str y t) es y) Q E s := by
  have hk' := hkey
  cases hkey
  unfold foundByValue
  cases hf : es.findIdx? (fun e => e.key.isStr y) with
  | none =>
    refine wpAny_pure (hn fun mem => ?_)
    obtain ⟨j, lt, e⟩ := List.getElem_of_mem mem
    have lt' : j < es.size := by rw [ek.len] at lt; exact lt
    obtain ⟨q, q1, _, _, q4⟩ := ek.at_ j es[j] (Array.getElem?_eq_getElem lt')
    rw [List.getElem?_eq_getElem lt, e] at q1
    cases q1
    have := Array.findIdx?_eq_none_iff.mp hf es[j] (Array.getElem_mem lt')
    revert this q4
    generalize es[j].key = kk
    intro q4 this
    cases q4
    simp [Value.isStr] at this
  | some i =>
    obtain ⟨lt, hi, _⟩ := Array.findIdx?_eq_some_iff_getElem.mp hf
    obtain ⟨q, q1, _, q3, q4⟩ := ek.at_ i es[i] (Array.getElem?_eq_getElem lt)
    have e : q = .text y := by
      revert hi q4
      generalize es[i].key = kk
      intro hi q4
      cases kk <;> simp [Value.isStr] at hi
      cases q4
      rw [hi]
    simp only [Array.getElem?_eq_getElem lt]
    refine wpAny_bind (wpAny_dictEpoch ho hd (wpAny_bind (meqB hu q3 q4 hk' (wpAny_bind (wpAny_dictEpoch ho hd ?_)))))
    show wpAny _ _ (if (ep != ep) = true then _ else _) _ E _
    rw [if_neg (by rw [bne_self_eq_false]; exact Bool.false_ne_true), decide_eq_true e]
    exact wpAny_bind (wpAny_rule (wpAny_pure (hs i (e ▸ q1))))
/-- the place of a key -/
theorem mFind {Q : Option Nat → Shared → Prop} (hu : A.units + 8 < cLine) (h8 : k.depth ≤ 8) (hkey : NestedIs s.heap k key) (ho : s.heap.get? d = some o) (hd : o.data = .dict es ep) (ek : EKeys s.heap w es ks)
    (hn : k ∉ ks → Q none s) (hs : ∀ j, ks[j]? = some k → Q (some j) s) : wpAny (model prog w) A (dictFind d key (k.hash w)) Q E s := by
  have st : ∀ v ∈ (placesWithHash es.size (fun i => es[i]?.map (·.hash)) (k.hash w)).filterMap (fun i => es[i]?.map (·.key)), ∃ q : NestedKey, q.depth ≤ 8 ∧ NestedIs s.heap q v := by
    intro v hv
    obtain ⟨i, _, hi⟩ := List.mem_filterMap.mp hv
    cases he : es[i]? with
    | none => rw [he] at hi; cases hi
    | some e =>
      rw [he] at hi
      cases hi
      obtain ⟨q, _, _, q3, q4⟩ := ek.at_ i e he
      exact ⟨q, q3, q4⟩
  have anyR : ∀ a, key = .ref a → ¬ (es.any fun e => e.key == Value.ref a && e.hash != k.hash w) = true := by
    intro a ea
    rw [← Array.any_toList, List.any_eq_true]
    rintro ⟨e, hin, hc⟩
    obtain ⟨j, lj, ej⟩ := List.getElem_of_mem hin
    obtain ⟨q, q1, q2, q3, q4⟩ := ek.at_ j e (by rw [← Array.getElem?_toList, List.getElem?_eq_getElem lj, ej])
    simp only [Bool.and_eq_true, beq_iff_eq, bne_iff_ne, ne_eq] at hc
    rw [hc.1, ← ea] at q4
    exact hc.2 (by rw [q2, NestedIs.inj _ _ _ q4 hkey])
  have hk' := hkey
  unfold dictFind
  try with_reducible refine wpAny_holding ?_
  refine wpAny_bind (wpAny_dictEntries (s := s) (a := d) ho hd ?_)
  have byV : ∀ v : Value, ((v :: (placesWithHash es.size (fun i => es[i]?.map (·.hash)) (k.hash w)).filterMap (fun i => es[i]?.map (·.key))).all carriedByValue = true) ∨ ¬ ((v :: (placesWithHash es.size (fun i => es[i]?.map (·.hash)) (k.hash w)).filterMap (fun i => es[i]?.map (·.key))).all carriedByValue = true) := fun v => Decidable.em _
  have one : ∀ v : Value, (((placesWithHash es.size (fun i => es[i]?.map (·.hash)) (k.hash w)).filterMap (fun i => es[i]?.map (·.key)) == [v]) = true) ∨ ¬ (((placesWithHash es.size (fun i => es[i]?.map (·.hash)) (k.hash w)).filterMap (fun i => es[i]?.map (·.key)) == [v]) = true) := fun v => Decidable.em _
  have nohit : ∀ i, HitAt ks k i none → es.size ≤ i → k ∉ ks := by
    rintro i (⟨_, no⟩ | ⟨j, z, _⟩) hi mem
    · obtain ⟨j, lt, e⟩ := List.getElem_of_mem mem
      exact no j (by rw [ek.len] at lt; omega) (by rw [List.getElem?_eq_getElem lt, e])
    · cases z
  cases key <;> dsimp only
  case str y t =>
    rcases Decidable.em ((es.all fun e => isExactStrKey e.key) = true) with hx | hx
    · rw [if_pos hx]
      exact mStr hu hk' ho hd ek hn hs
    · rw [if_neg hx]
      rcases byV (.str y t) with hv | hv
      · rw [if_pos hv]
        exact mWalk hu hk' ho hd ek hn hs
      · rw [if_neg hv]
        rcases one (.str y t) with hw | hw <;> (first | rw [if_pos hw] | rw [if_neg hw]) <;> (first | refine wpAny_bind (wpAny_pure ?_) | refine wpAny_bind (mQuiet h8 hk' st ?_)) <;> (
        rw [if_neg (show ¬ (false && _) = true from Bool.false_ne_true)]
        refine wpAny_bind (wpAny_forIn_list _ (fun l b t => t = s ∧ ∃ i hit, b = (none, hit) ∧ l = (List.range' i (es.size - i)).filter (hsh es (k.hash w)) ∧ i ≤ es.size ∧ HitAt ks k i hit) _ ?_ ?_ _ _
          ⟨rfl, 0, none, rfl, by rw [placesWithHash, List.range_eq_range', Nat.sub_zero], Nat.zero_le _, .inl ⟨rfl, fun _ z => absurd z (Nat.not_lt_zero _)⟩⟩)
        · rintro x l b t ⟨rfl, i, hit, rfl, hl, hi, hH⟩
          obtain ⟨g1, g2, g3, g4, g5⟩ := filter_range'_cons _ _ _ _ _ hl.symm
          have lt : x < es.size := by omega
          obtain ⟨q, q1, q2, q3, q4⟩ := ek.at_ x es[x] (Array.getElem?_eq_getElem lt)
          have hx := (hH.upto ek.hash g4).resolve_right (by omega)
          have l' : l = (List.range' (x + 1) (es.size - (x + 1))).filter (hsh es (k.hash w)) := by rw [g5]; congr 2; omega
          simp only [Array.getElem?_eq_getElem lt]
          by_cases hh : (es[x].hash == k.hash w) = true
          · rw [if_pos hh]
            refine wpAny_bind (wpAny_dictEpoch ho hd (wpAny_bind (meqB hu q3 q4 hk' (wpAny_bind (wpAny_dictEpoch ho hd ?_)))))
            show wpAny _ _ (if (ep != ep) = true then _ else _) _ E _
            rw [if_neg (by rw [bne_self_eq_false]; exact Bool.false_ne_true)]
            by_cases e : q = k
            · rw [decide_eq_true e]
              rw [e] at q1
              rcases hx with ⟨rfl, _⟩ | ⟨j, _, j1, j2⟩
              · first | rw [if_pos rfl] | skip
                simp only [Option.isSome_none, Bool.false_eq_true, if_false]
                first | refine wpAny_bind (wpAny_pure ?_) | skip
                refine wpAny_bind (wpAny_rule ?_)
                split
                · exact wpAny_pure (wpAny_pure (hs x q1))
                · exact wpAny_pure ⟨rfl, x + 1, some x, rfl, l', lt, .inr ⟨x, rfl, Nat.lt_succ_self x, q1⟩⟩
              · exact absurd (nd_at ek.nd j2 q1) (by omega)
            · rw [decide_eq_false e]
              simp only [Bool.false_eq_true, if_false]
              refine wpAny_bind (wpAny_rule ?_)
              first | rw [if_neg (by simp)] | skip
              first
                | exact wpAny_pure ⟨rfl, x + 1, hit, rfl, l', lt, hx.next q1 e⟩
                | exact wpAny_bind (wpAny_pure (wpAny_pure ⟨rfl, x + 1, hit, rfl, l', lt, hx.next q1 e⟩))
          · rw [if_neg hh]
            refine wpAny_pure ⟨rfl, x + 1, hit, rfl, l', lt, hx.next q1 fun e => hh ?_⟩
            rw [q2, e]; exact beq_self_eq_true _
        · rintro b t ⟨rfl, i, hit, rfl, hl, hi, hH⟩
          rcases id hH with ⟨rfl, _⟩ | ⟨j, rfl, _, j2⟩
          · refine wpAny_pure (hn (nohit es.size ?_ (Nat.le_refl _)))
            exact (hH.upto ek.hash (x := es.size) fun j z1 z2 => by
              have := List.filter_eq_nil_iff.mp hl.symm j (List.mem_range'_1.mpr ⟨z1, by omega⟩)
              simpa using this).resolve_right (by omega)
          · exact wpAny_pure (hs j j2))
  case ref a =>
    rcases byV (.ref a) with hv | hv
    · rw [if_pos hv]
      exact mWalk hu hk' ho hd ek hn hs
    · rw [if_neg hv, if_neg (anyR _ rfl)]
      rcases one (.ref a) with hw | hw <;> (first | rw [if_pos hw] | rw [if_neg hw]) <;> (first | refine wpAny_bind (wpAny_pure ?_) | refine wpAny_bind (mQuiet h8 hk' st ?_)) <;> (
        rw [if_neg (show ¬ (false && _) = true from Bool.false_ne_true)]
        refine wpAny_bind (wpAny_forIn_list _ (fun l b t => t = s ∧ ∃ i hit, b = (none, hit) ∧ l = (List.range' i (es.size - i)).filter (hsh es (k.hash w)) ∧ i ≤ es.size ∧ HitAt ks k i hit) _ ?_ ?_ _ _
          ⟨rfl, 0, none, rfl, by rw [placesWithHash, List.range_eq_range', Nat.sub_zero], Nat.zero_le _, .inl ⟨rfl, fun _ z => absurd z (Nat.not_lt_zero _)⟩⟩)
        · rintro x l b t ⟨rfl, i, hit, rfl, hl, hi, hH⟩
          obtain ⟨g1, g2, g3, g4, g5⟩ := filter_range'_cons _ _ _ _ _ hl.symm
          have lt : x < es.size := by omega
          obtain ⟨q, q1, q2, q3, q4⟩ := ek.at_ x es[x] (Array.getElem?_eq_getElem lt)
          have hx := (hH.upto ek.hash g4).resolve_right (by omega)
          have l' : l = (List.range' (x + 1) (es.size - (x + 1))).filter (hsh es (k.hash w)) := by rw [g5]; congr 2; omega
          simp only [Array.getElem?_eq_getElem lt]
          by_cases hh : (es[x].hash == k.hash w) = true
          · rw [if_pos hh]
            refine wpAny_bind (wpAny_dictEpoch ho hd (wpAny_bind (meqB hu q3 q4 hk' (wpAny_bind (wpAny_dictEpoch ho hd ?_)))))
            show wpAny _ _ (if (ep != ep) = true then _ else _) _ E _
            rw [if_neg (by rw [bne_self_eq_false]; exact Bool.false_ne_true)]
            by_cases e : q = k
            · rw [decide_eq_true e]
              rw [e] at q1
              rcases hx with ⟨rfl, _⟩ | ⟨j, _, j1, j2⟩
              · first | rw [if_pos rfl] | skip
                simp only [Option.isSome_none, Bool.false_eq_true, if_false]
                first | refine wpAny_bind (wpAny_pure ?_) | skip
                refine wpAny_bind (wpAny_rule ?_)
                split
                · exact wpAny_pure (wpAny_pure (hs x q1))
                · exact wpAny_pure ⟨rfl, x + 1, some x, rfl, l', lt, .inr ⟨x, rfl, Nat.lt_succ_self x, q1⟩⟩
              · exact absurd (nd_at ek.nd j2 q1) (by omega)
            · rw [decide_eq_false e]
              simp only [Bool.false_eq_true, if_false]
              refine wpAny_bind (wpAny_rule ?_)
              first | rw [if_neg (by simp)] | skip
              first
                | exact wpAny_pure ⟨rfl, x + 1, hit, rfl, l', lt, hx.next q1 e⟩
                | exact wpAny_bind (wpAny_pure (wpAny_pure ⟨rfl, x + 1, hit, rfl, l', lt, hx.next q1 e⟩))
          · rw [if_neg hh]
            refine wpAny_pure ⟨rfl, x + 1, hit, rfl, l', lt, hx.next q1 fun e => hh ?_⟩
            rw [q2, e]; exact beq_self_eq_true _
        · rintro b t ⟨rfl, i, hit, rfl, hl, hi, hH⟩
          rcases id hH with ⟨rfl, _⟩ | ⟨j, rfl, _, j2⟩
          · refine wpAny_pure (hn (nohit es.size ?_ (Nat.le_refl _)))
            exact (hH.upto ek.hash (x := es.size) fun j z1 z2 => by
              have := List.filter_eq_nil_iff.mp hl.symm j (List.mem_range'_1.mpr ⟨z1, by omega⟩)
              simpa using this).resolve_right (by omega)
          · exact wpAny_pure (hs j j2))
  all_goals
    rcases byV _ with hv | hv
    · rw [if_pos hv]
      exact mWalk hu hk' ho hd ek hn hs
    · rw [if_neg hv]
      rcases one _ with hw | hw <;> (first | rw [if_pos hw] | rw [if_neg hw]) <;> (first | refine wpAny_bind (wpAny_pure ?_) | refine wpAny_bind (mQuiet h8 hk' st ?_)) <;> (
        rw [if_neg (show ¬ (false && _) = true from Bool.false_ne_true)]
        refine wpAny_bind (wpAny_forIn_list _ (fun l b t => t = s ∧ ∃ i hit, b = (none, hit) ∧ l = (List.range' i (es.size - i)).filter (hsh es (k.hash w)) ∧ i ≤ es.size ∧ HitAt ks k i hit) _ ?_ ?_ _ _
          ⟨rfl, 0, none, rfl, by rw [placesWithHash, List.range_eq_range', Nat.sub_zero], Nat.zero_le _, .inl ⟨rfl, fun _ z => absurd z (Nat.not_lt_zero _)⟩⟩)
        · rintro x l b t ⟨rfl, i, hit, rfl, hl, hi, hH⟩
          obtain ⟨g1, g2, g3, g4, g5⟩ := filter_range'_cons _ _ _ _ _ hl.symm
          have lt : x < es.size := by omega
          obtain ⟨q, q1, q2, q3, q4⟩ := ek.at_ x es[x] (Array.getElem?_eq_getElem lt)
          have hx := (hH.upto ek.hash g4).resolve_right (by omega)
          have l' : l = (List.range' (x + 1) (es.size - (x + 1))).filter (hsh es (k.hash w)) := by rw [g5]; congr 2; omega
          simp only [Array.getElem?_eq_getElem lt]
          by_cases hh : (es[x].hash == k.hash w) = true
          · rw [if_pos hh]
            refine wpAny_bind (wpAny_dictEpoch ho hd (wpAny_bind (meqB hu q3 q4 hk' (wpAny_bind (wpAny_dictEpoch ho hd ?_)))))
            show wpAny _ _ (if (ep != ep) = true then _ else _) _ E _
            rw [if_neg (by rw [bne_self_eq_false]; exact Bool.false_ne_true)]
            by_cases e : q = k
            · rw [decide_eq_true e]
              rw [e] at q1
              rcases hx with ⟨rfl, _⟩ | ⟨j, _, j1, j2⟩
              · first | rw [if_pos rfl] | skip
                simp only [Option.isSome_none, Bool.false_eq_true, if_false]
                first | refine wpAny_bind (wpAny_pure ?_) | skip
                refine wpAny_bind (wpAny_rule ?_)
                split
                · exact wpAny_pure (wpAny_pure (hs x q1))
                · exact wpAny_pure ⟨rfl, x + 1, some x, rfl, l', lt, .inr ⟨x, rfl, Nat.lt_succ_self x, q1⟩⟩
              · exact absurd (nd_at ek.nd j2 q1) (by omega)
            · rw [decide_eq_false e]
              simp only [Bool.false_eq_true, if_false]
              refine wpAny_bind (wpAny_rule ?_)
              first | rw [if_neg (by simp)] | skip
              first
                | exact wpAny_pure ⟨rfl, x + 1, hit, rfl, l', lt, hx.next q1 e⟩
                | exact wpAny_bind (wpAny_pure (wpAny_pure ⟨rfl, x + 1, hit, rfl, l', lt, hx.next q1 e⟩))
          · rw [if_neg hh]
            refine wpAny_pure ⟨rfl, x + 1, hit, rfl, l', lt, hx.next q1 fun e => hh ?_⟩
            rw [q2, e]; exact beq_self_eq_true _
        · rintro b t ⟨rfl, i, hit, rfl, hl, hi, hH⟩
          rcases id hH with ⟨rfl, _⟩ | ⟨j, rfl, _, j2⟩
          · refine wpAny_pure (hn (nohit es.size ?_ (Nat.le_refl _)))
            exact (hH.upto ek.hash (x := es.size) fun j z1 z2 => by
              have := List.filter_eq_nil_iff.mp hl.symm j (List.mem_range'_1.mpr ⟨z1, by omega⟩)
              simpa using this).resolve_right (by omega)
          · exact wpAny_pure (hs j j2))
end

/-! ### the keys of a mixed dict as data -/
def nkOf (d : D) : NestedKey := (keyD d).getD .none
/-- a key that may stand in a dict -/
def keyM (d : D) : Option NestedKey := match keyD d with
  | some q => if q.depth ≤ 8 then some q else none
  | none => none
theorem keyM_some {d : D} {q : NestedKey} (h : keyM d = some q) : keyD d = some q ∧ q.depth ≤ 8 := by
  unfold keyM at h
  split at h
  · rename_i q' e
    split at h
    · rename_i l
      cases h; exact ⟨e, l⟩
    · cases h
  · cases h
def lkM (kvs : List (D × D)) (q : NestedKey) : Option D := (kvs.find? fun kv => decide (keyD kv.1 = some q)).map (·.2)
def ptM (kvs : List (D × D)) (q : NestedKey) (k v : D) : List (D × D) :=
  if (kvs.any fun kv => decide (keyD kv.1 = some q)) = true then kvs.map (fun kv => if keyD kv.1 = some q then (kv.1, v) else kv) else kvs ++ [(k, v)]
section
variable {X : Cx} {C : Ct} {pins : List (Addr × Obj)} {σ : L2.St} {H : Hp} {s : Shared} {μ : Mu}
mutual
theorem keyD_is (I : Inv X pins σ H s) (hK : X.K = C.K) : ∀ (d : D) (v : V) (u : Value) (q : NestedKey), keyD d = some q → RelD C.K μ H d v → RelV v u → NestedIs s.heap q u
  | .non, v, u, q, h, r, ru => by
    cases (show v = .non from r)
    cases h
    cases (show u = .none from ru)
    exact .none
  | .int i, v, u, q, h, r, ru => by
    cases (show v = .int i from r)
    cases h
    obtain ⟨t, rfl⟩ := (show ∃ t, u = Value.int i t from ru)
    exact .int i t
  | .str x, v, u, q, h, r, ru => by
    cases (show v = .str x from r)
    cases h
    obtain ⟨t, rfl⟩ := (show ∃ t, u = Value.str x t from ru)
    exact .text x t
  | .tup ds, v, u, q, h, r, ru => by
    have h' : (keyDs ds).map NestedKey.tup = some q := by rw [← h, keyD]
    cases e : keyDs ds with
    | none => rw [e] at h'; cases h'
    | some qs =>
      rw [e] at h'
      cases h'
      obtain ⟨a, vs, rfl, t, rr⟩ := r
      cases (show u = Value.ref a from ru)
      rw [← hK] at t
      obtain ⟨its, rv, ⟨ob, o1, o2, n, o3⟩, _⟩ := I.tuple t
      exact .tup o1 o2 o3 (by simpa using keyDs_is I hK ds vs its qs e rr rv)
  | .bl _, v, u, q, h, r, ru => by rw [keyD] at h; cases h
  | .lst _, v, u, q, h, r, ru => by rw [keyD] at h; cases h
  | .scr _, v, u, q, h, r, ru => by rw [keyD] at h; cases h
  | .ref _, v, u, q, h, r, ru => by rw [keyD] at h; cases h
theorem keyDs_is (I : Inv X pins σ H s) (hK : X.K = C.K) : ∀ (ds : List D) (vs : List V) (us : List Value) (qs : List NestedKey), keyDs ds = some qs → RelDs C.K μ H ds vs → Vals vs us → NestedAll s.heap qs us
  | [], vs, us, qs, h, r, ru => by
    cases (show vs = [] from r)
    rw [keyDs] at h
    cases h
    cases ru
    exact .nil
  | d :: ds, vs, us, qs, h, ⟨v, r, e, r1, r2⟩, ru => by
    subst e
    rw [keyDs] at h
    cases e1 : keyD d with
    | none => rw [e1] at h; cases h
    | some q =>
      cases e2 : keyDs ds with
      | none => rw [e1, e2] at h; cases h
      | some qr =>
        rw [e1, e2] at h
        cases h
        cases ru with
        | cons a b => exact .cons (keyD_is I hK d v _ q e1 r1 a) (keyDs_is I hK ds r _ qr e2 r2 b)
end
theorem RelK.keys (I : Inv X pins σ H s) (hK : X.K = C.K) (hw : X.w = C.w) : ∀ {kvs : List (D × D)} {es : List DictEntry}, RelK C μ H kvs es → (kvs.map fun p => nkOf p.1).length = es.length ∧
    ∀ (j : Nat) (e : DictEntry), es[j]? = some e → ∃ q, (kvs.map fun p => nkOf p.1)[j]? = some q ∧ e.hash = q.hash X.w ∧ q.depth ≤ 8 ∧ NestedIs s.heap q e.key
  | [], es, h => by cases (show es = [] from h); exact ⟨rfl, fun j e z => by simp at z⟩
  | (k, d) :: r, es, h => by
    obtain ⟨e, q, nk, rfl, h1, h2, h3, ⟨v, h4, h5⟩, _, h8⟩ := h
    obtain ⟨l, a⟩ := RelK.keys I hK hw h8
    refine ⟨by simpa using l, fun j e' z => ?_⟩
    cases j with
    | zero =>
      simp at z; subst z
      exact ⟨nk, by simp [nkOf, h1], by rw [hw]; exact h3, h2, keyD_is I hK k v _ nk h1 h5 h4⟩
    | succ j => exact a j e' (by simpa using z)
theorem nk_nodup {kvs : List (D × D)} {es : List DictEntry} (h : RelK C μ H kvs es) (hn : (kvs.map fun p => keyD p.1).Nodup) : (kvs.map fun p => nkOf p.1).Nodup := by
  have all : ∀ (kvs : List (D × D)) (es : List DictEntry), RelK C μ H kvs es → (kvs.map fun p => keyD p.1) = (kvs.map fun p => nkOf p.1).map some := by
    intro kvs
    induction kvs with
    | nil => intro es _; rfl
    | cons p r ih =>
      intro es h
      obtain ⟨k, d⟩ := p
      obtain ⟨e, q, nk, rfl, h1, _, _, _, _, h8⟩ := h
      rw [List.map_cons, List.map_cons, List.map_cons, ih _ h8]
      simp [nkOf, h1]
  rw [all _ _ h] at hn
  exact (List.pairwise_map.mp hn).imp fun z e => z (by rw [e])
theorem RelK.val : ∀ {kvs : List (D × D)} {es : List DictEntry} {j : Nat} {q : NestedKey}, RelK C μ H kvs es → (kvs.map fun p => keyD p.1).Nodup → (kvs.map fun p => nkOf p.1)[j]? = some q →
    ∃ e d v, es[j]? = some e ∧ lkM kvs q = some d ∧ RelV v e.val ∧ RelD C.K μ H d v
  | [], es, j, q, h, _, z => by simp at z
  | (k, d) :: r, es, j, q, h, hn, z => by
    obtain ⟨e, es', nk, rfl, h1, h2, h3, h4, ⟨v, h6, h7⟩, h8⟩ := h
    rw [List.map_cons, List.nodup_cons] at hn
    cases j with
    | zero =>
      simp [nkOf, h1] at z; subst z
      exact ⟨e, d, v, by simp, by unfold lkM; rw [List.find?_cons, decide_eq_true h1]; rfl, h6, h7⟩
    | succ j =>
      obtain ⟨e', d', v', a1, a2, a3, a4⟩ := RelK.val h8 hn.2 (by simpa using z)
      refine ⟨e', d', v', by simpa using a1, ?_, a3, a4⟩
      unfold lkM at a2 ⊢
      have ne : ¬ keyD k = some q := by
        intro e0
        apply hn.1
        cases f : r.find? (fun kv => decide (keyD kv.1 = some q)) with
        | none => rw [f] at a2; cases a2
        | some x =>
          have := List.find?_some f
          exact List.mem_map.mpr ⟨x, List.mem_of_find?_eq_some f, (of_decide_eq_true this).trans e0.symm⟩
      rw [List.find?_cons, decide_eq_false ne]
      exact a2
theorem lkM_none {kvs : List (D × D)} {es : List DictEntry} {q : NestedKey} (h : RelK C μ H kvs es) (hq : q ∉ kvs.map fun p => nkOf p.1) : ∀ kv ∈ kvs, keyD kv.1 ≠ some q := by
  intro kv hkv e
  exact hq (List.mem_map.mpr ⟨kv, hkv, by unfold nkOf; rw [e]; rfl⟩)
theorem lkM_of_none {kvs : List (D × D)} {q : NestedKey} (h : ∀ kv ∈ kvs, keyD kv.1 ≠ some q) : lkM kvs q = none := by
  unfold lkM
  rw [List.find?_eq_none.mpr (fun kv hkv => by simpa using h kv hkv)]; rfl
/-- what stands in the heap -/
theorem dm_raw {kvs : List (D × D)} {ep : Nat} {a : Addr} (I : Inv X pins σ H s) (hK : X.K = C.K) (hw : X.w = C.w) (h : DictRel C μ H kvs ep a) :
    ∃ o es, s.heap.get? a = some o ∧ o.ExactDict ∧ o.data = .dict es ep ∧ (a == sysModules) = false ∧ kvs.length ≤ sizeLine ∧ (kvs.map fun p => keyD p.1).Nodup ∧ EKeys s.heap X.w es (kvs.map fun p => nkOf p.1) ∧ RelK C μ H kvs es.toList ∧ H a = some (extOf a o) := by
  obtain ⟨o, es, h1, h2, h3, h4, h5, h6, h7⟩ := h
  obtain ⟨l, at_⟩ := h7.keys I hK hw
  exact ⟨o, es, (I.hok a _ h1).1, h2, h3, h4, h5, h6, ⟨by simpa using l, fun j e z => at_ j e (by rw [Array.getElem?_toList]; exact z), nk_nodup h7 h6⟩, h7, h1⟩
/-- what a look-up gives -/
def LkRel (C : Ct) (μ : Mu) (H : Hp) (x : Option D) (r : Option Value) : Prop := match x with
  | none => r = none
  | some d => ∃ v w', r = some w' ∧ RelV v w' ∧ RelD C.K μ H d v
theorem dm_get {A : Around} {E : Value → Shared → Prop} {Q : Option Value → Shared → Prop} {kvs : List (D × D)} {ep : Nat} {a : Addr} {k : D} {y : V} {u : Value} {q : NestedKey} (hu : A.units + 8 < cLine) (I : Inv X pins σ H s) (hK : X.K = C.K) (hw : X.w = C.w) (h : DictRel C μ H kvs ep a)
    (hq : keyM k = some q) (rk : RelD C.K μ H k y) (ry : RelV y u) (hQ : ∀ r s', Inv X pins σ H s' → LkRel C μ H (lkM kvs q) r → Q r s') : wpAny (model X.prog X.w) A (dictGet a u) Q E s := by
  obtain ⟨o, es, g1, g2, g3, g4, g5, g6, g7, g8, g9⟩ := dm_raw I hK hw h
  obtain ⟨k1, k2⟩ := keyM_some hq
  have ki := keyD_is I hK k y u q k1 rk ry
  unfold dictGet
  try with_reducible refine wpAny_holding ?_
  refine wpAny_bind (pyHash_key q u A s _ ki (by omega) (wpAny_bind (mFind (s := { s with toks := s.toks + q.draws }) hu k2 ki g1 g3 g7 (fun no => ?_) fun j hj => ?_)))
  · exact wpAny_pure (hQ none _ (I.tok _) (by rw [lkM_of_none (lkM_none g8 no)]; rfl))
  · obtain ⟨e, d, v, a1, a2, a3, a4⟩ := g8.val g6 hj
    rw [Array.getElem?_toList] at a1
    refine wpAny_bind (wpAny_dictEntries (s := { s with toks := s.toks + q.draws }) g1 g3 ?_)
    rw [a1]
    exact wpAny_pure (hQ (some e.val) _ (I.tok _) (by rw [a2]; exact ⟨v, e.val, rfl, a3, a4⟩))
end

/-! ### expressions -/
def getM (s : HS) : D → Option (List (D × D) × Nat)
  | .ref n => match s.h n with
    | some (.mix kvs ep) => some (kvs, ep)
    | _ => none
  | _ => none
def mnewE : SE := fun _ s => .ok (.ref s.n) (s.new (.mix [] 0))
def oMGet (x k : D) (s : HS) : Res D := match getM s x, keyM k with
  | some p, some q => match lkM p.1 q with
    | some d => .ok d s
    | none => .bad
  | _, _ => .bad
def oMIn (neg : Bool) (k x : D) (s : HS) : Res D := match getM s x, keyM k with
  | some p, some q => .ok (.bl ((lkM p.1 q).isSome != neg)) s
  | _, _ => .bad
def mputS (o i v : SE) : SS := fun sd s => (v sd s).bs sd fun d s1 => (o sd s1).bs sd fun x s2 => (i sd s2).bs sd fun k s3 => match x with
  | .ref n => match s3.h n, keyM k with
    | some (.mix kvs ep), some q => if kvs.length < sizeLine then .nx sd (s3.put n (.mix (ptM kvs q k d) (if (lkM kvs q).isSome = true then ep else ep + 1))) else .bad
    | _, _ => .bad
  | _ => .bad
def mget2E (o k z : SE) : SE := fun sd s => (o sd s).bind fun x s1 => match getM s1 x with
  | some _ => (k sd s1).bind fun y s2 => (z sd s2).bind fun w s3 => match getM s3 x, keyM y with
    | some p, some q => .ok ((lkM p.1 q).getD w) s3
    | _, _ => .bad
  | none => .bad
section
variable {X : Cx} {C : Ct} {W : WX} {o i e k z : Expr} {fo fi f fk fz : SE} {pos pos' apos cpos : Pos}
theorem getM_rel {μ : Mu} {S : HS} {H : Hp} (R : Rep C μ S H) {d : D} {v : V} {p : List (D × D) × Nat} (r : RelD C.K μ H d v) (e : getM S d = some p) : ∃ n ad, d = .ref n ∧ v = .ref ad ∧ μ n = some ad ∧ S.h n = some (.mix p.1 p.2) ∧ DictRel C μ H p.1 p.2 ad := by
  unfold getM at e
  split at e
  · rename_i n
    split at e
    · rename_i kvs ep e0
      cases e
      obtain ⟨a, rfl, hm⟩ := r
      obtain ⟨ob, e1, q⟩ := R.obj n a hm
      rw [e0] at e1
      cases e1
      exact ⟨n, a, rfl, rfl, hm, e0, q⟩
    · cases e
  · cases e
theorem lmnew (o : Ok C X W) : LE C X W (.Dict [] [] pos) mnewE := ⟨fun pins s σ H Q I ⟨μ, sd, S, R, rs, h⟩ => by
  have hp : H s.heap.objs.size = none := I.hok.fresh (Nat.le_refl _)
  have g := G.newM (u := extOf s.heap.objs.size { cls := .type "dict", data := .dict #[] }) R hp
  refine wpAny_Dict_empty ⟨.ref s.heap.objs.size, upd H s.heap.objs.size (extOf s.heap.objs.size { cls := .type "dict", data := .dict #[] }), I.laid (a := s.heap.objs.size) (t' := s.toks) (fun _ _ q => Heap.get?_push_of_some _ q) (Nat.le_refl _) ?_, rfl, ?_⟩
  · exact ⟨Heap.get?_push_size _ rfl, ⟨_, Heap.get?_push_size _ rfl⟩, fun h1 h2 a b => b _ a⟩
  · exact Good.ok h g (R.newM hp ⟨_, #[], upd_same, ⟨rfl, rfl, rfl⟩, rfl, beq_eq_false_iff_ne.mpr (Ne.symm (Nat.ne_of_lt I.big)), Nat.zero_le _, List.nodup_nil, rfl⟩) ⟨_, rfl, muNew_self⟩⟩
theorem dict_type {pins : List (Addr × Obj)} {σ : L2.St} {H : Hp} {s : Shared} {μ : Mu} {kvs : List (D × D)} {ep : Nat} {a : Addr} (I : Inv X pins σ H s) (h : DictRel C μ H kvs ep a) : s.TypeIs (.ref a) "dict" ∧ (∀ b, Value.ref a = .ref b → ∃ ob, s.heap.get? b = some ob ∧ ob.dict = none) ∧ (a == sysModules) = false := by
  obtain ⟨o, es, h1, h2, h3, h4, _⟩ := h
  have g := (I.hok a _ h1).1
  exact ⟨⟨o, g, h2.1⟩, fun b z => by cases z; exact ⟨o, g, h2.2.1⟩, h4⟩
/-- d[y], there -/
theorem dm_getItem {pins : List (Addr × Obj)} {σ : L2.St} {H : Hp} {s : Shared} {μ : Mu} {A : Around} {E : Value → Shared → Prop} {Q : Value → Shared → Prop} {kvs : List (D × D)} {ep : Nat} {a : Addr} {k d : D} {y : V} {u : Value} {q : NestedKey} (hu : A.units + 9 < cLine) (I : Inv X pins σ H s) (hK : X.K = C.K) (hw : X.w = C.w) (h : DictRel C μ H kvs ep a)
    (hq : keyM k = some q) (rk : RelD C.K μ H k y) (ry : RelV y u) (hd : lkM kvs q = some d) (hQ : ∀ v w' s', Inv X pins σ H s' → RelV v w' → RelD C.K μ H d v → Q w' s') : wpAny (model X.prog X.w) A (getItem (.ref a) u) Q E s := by
  obtain ⟨t1, _, _⟩ := dict_type I h
  unfold getItem
  try with_reducible refine wpAny_holding ?_
  refine wpAny_bind (wpAny_sequenceKey t1 (by decide) ?_)
  refine wpAny_bind (wpAny_callSpecial?_slot (name := Str.ofString "__getitem__") t1 slot_dict_getitem (wpAny_call_entry slot_dict_getitem t1 entry_dict_getitem ?_ (args_dict_getitem _ _)))
  show wpAny _ _ (dictGet a u >>= _) _ _ s
  refine wpAny_bind (dm_get (A := A.in1) (by rw [Around.in1_units]; omega) I hK hw h hq rk ry fun r s' I' hr => ?_)
  rw [hd] at hr
  obtain ⟨v, w', rfl, h1, h2⟩ := hr
  exact wpAny_pure ⟨w', rfl, wpAny_pure (hQ v w' s' I' h1 h2)⟩
/-- y in d -/
theorem dm_contains {pins : List (Addr × Obj)} {σ : L2.St} {H : Hp} {s : Shared} {μ : Mu} {A : Around} {E : Value → Shared → Prop} {Q : Bool → Shared → Prop} {kvs : List (D × D)} {ep : Nat} {a : Addr} {k : D} {y : V} {u : Value} {q : NestedKey} (hu : A.units + 9 < cLine) (I : Inv X pins σ H s) (hK : X.K = C.K) (hw : X.w = C.w) (h : DictRel C μ H kvs ep a)
    (hq : keyM k = some q) (rk : RelD C.K μ H k y) (ry : RelV y u) (hQ : ∀ s', Inv X pins σ H s' → Q (lkM kvs q).isSome s') : wpAny (model X.prog X.w) A (contains (.ref a) u) Q E s := by
  obtain ⟨t1, _, t3⟩ := dict_type I h
  unfold contains
  try with_reducible refine wpAny_holding ?_
  refine wpAny_bind (wpAny_specialOf t1 slot_dict_contains.lookup ?_)
  show wpAny _ _ (if (some (Value.builtin "dict.__contains__") == some Value.none) = true then _ else _) _ E s
  rw [if_neg (by rw [beq_builtin_none]; exact Bool.false_ne_true)]
  refine wpAny_bind (wpAny_callSpecialUnlessNone?_slot (name := Str.ofString "__contains__") t1 slot_dict_contains (wpAny_call_entry slot_dict_contains t1 entry_dict_contains ?_ (args_dict_contains _ _)))
  show wpAny _ _ (dictGet a u >>= _) _ _ s
  refine wpAny_bind (dm_get (A := A.in1) (by rw [Around.in1_units]; omega) I hK hw h hq rk ry fun r s' I' hr => ?_)
  cases e : lkM kvs q with
  | some d =>
    rw [e] at hr
    obtain ⟨v, w', rfl, h1, h2⟩ := hr
    show wpAny _ _ (ret (.bool true)) _ _ _
    exact wpAny_pure ⟨_, rfl, wpAny_truthy_bool (by have := hQ s' I'; rw [e] at this; exact this)⟩
  | none =>
    rw [e] at hr
    cases (show r = none from hr)
    show wpAny _ _ (Builtin.Dict.pendingKey? a u >>= _) _ _ _
    exact wpAny_bind (wpAny_pendingKey_other t3 (wpAny_pure ⟨_, rfl, wpAny_truthy_bool (by have := hQ s' I'; rw [e] at this; exact this)⟩))
/-- d.get(y, z) -/
theorem dm_get2 {pins : List (Addr × Obj)} {σ : L2.St} {H : Hp} {s : Shared} {μ : Mu} {A : Around} {E : Value → Shared → Prop} {Q : Value → Shared → Prop} {kvs : List (D × D)} {ep : Nat} {a : Addr} {k z : D} {y zv : V} {u r : Value} {q : NestedKey} (hu : A.units + 9 < cLine) (I : Inv X pins σ H s) (hK : X.K = C.K) (hw : X.w = C.w) (h : DictRel C μ H kvs ep a)
    (hq : keyM k = some q) (rk : RelD C.K μ H k y) (ry : RelV y u) (rz : RelD C.K μ H z zv) (rr : RelV zv r) (hQ : ∀ v w' s', Inv X pins σ H s' → RelV v w' → RelD C.K μ H ((lkM kvs q).getD z) v → Q w' s') : wpAny (model X.prog X.w) A (call (.builtin "dict.get") [.ref a, u, r]) Q E s := by
  obtain ⟨t1, _, t3⟩ := dict_type I h
  refine call_meetsIn PySem.F.slot_dict_get t1 PySem.F.entry_dict_get (PySem.F.args_dict_get_3 _ _ _) (S := fun A' R' s' => A' = A ∧ s' = s ∧ R' = wants Q E) (MeetsIn.of_wp ?_) ⟨rfl, rfl, rfl⟩
  rintro A' R' s' ⟨rfl, rfl, rfl⟩
  show wpAny _ _ (dictGet a u >>= _) _ _ _
  refine wpAny_bind (dm_get (A := A'.in1) (by rw [Around.in1_units]; omega) I hK hw h hq rk ry fun r' s' I' hr => ?_)
  cases e : lkM kvs q with
  | some d =>
    rw [e] at hr
    obtain ⟨v, w', rfl, h1, h2⟩ := hr
    exact wpAny_pure ⟨w', rfl, hQ v w' s' I' h1 (by rw [e]; exact h2)⟩
  | none =>
    rw [e] at hr
    cases (show r' = none from hr)
    show wpAny _ _ (Builtin.Dict.missed a u >>= _) _ _ _
    exact wpAny_bind (wpAny_missed_other t3 (wpAny_pure ⟨r, rfl, hQ zv r s' I' rr (by rw [e]; exact rz)⟩))
theorem lmget (hu : X.A.units + 65 < cLine) (o' : Ok C X W) (ho : LE C X W o fo) (hi : LE C X W i fi) (hs : NoSl i := by exact fun _ _ => rfl) : LE C X W (.Subscript o i pos) (b2 fo fi oMGet) := ⟨fun pins s σ H Q I ⟨μ, sd, S, R, rs, h⟩ => by
  refine subD_of PySem.F.slot_dict_getitem.lookup hs (thn (ho.run pins s σ H (fun x H1 => Lift C W (RelD C.K) fi σ H1 fun y H2 => ∃ μ2 S2 dx dy, Rep C μ2 S2 H2 ∧ RelD C.K μ2 H2 dx x ∧ RelD C.K μ2 H2 dy y ∧ Good C W (RelD C.K) μ2 σ H2 Q (oMGet dx dy S2)) I ?_) fun u s1 ⟨x, H1, I1, rx, q1⟩ => thn (hi.run pins s1 σ H1 _ I1 q1) fun iv s2 ⟨y, H2, I2, ry, μ2, S2, dx, dy, R2, hx, hy, g⟩ => ?_)
  · refine Lift.step _ Stable.true R rs trivial h fun x H1 μ1 S1 dx g1 R1 rs1 _ rx h1 => ?_
    exact Lift.step _ (Stable.rel (d := dx) (v := x)) R1 rs1 rx h1 fun y H2 μ2 S2 dy g2 R2 rs2 rx2 ry h2 => ⟨μ2, S2, dx, dy, R2, rx2, ry, h2⟩
  · unfold oMGet at g
    split at g
    · rename_i p q e1 e2
      obtain ⟨n, ad, rfl, rfl, hm, e0, dr⟩ := getM_rel R2 hx e1
      obtain rfl : u = Value.ref ad := rx
      obtain ⟨t1, t2, t3⟩ := dict_type I2 dr
      split at g
      · rename_i d e3
        refine ⟨t1, dm_getItem (by omega) I2 o'.K o'.w dr e2 hy ry e3 fun v w' s3 I3 h1 h2 => ⟨v, H2, I3, h1, Good.ok g .refl R2 h2⟩⟩
      · exact g.elim
    · exact g.elim⟩
theorem lmget2 (hu : X.A.units + 65 < cLine) (o' : Ok C X W) (ho : LE C X W o fo) (hk : LE C X W k fk) (hz : LE C X W z fz) (m : M2 X o "get" apos k z cpos) : LE C X W (.Call (.Attribute o "get" apos) [k, z] [] cpos) (mget2E fo fk fz) := ⟨fun pins s σ H Q I ⟨μ, sd, S, R, rs, h⟩ => by
  refine wpAny_Call_method m.base m.few m.line PySem.F.plainAttrs_dict PySem.F.slot_dict_get PySem.F.type_dict_get (thn (ho.run pins s σ H (fun x H1 => (∃ μ1 S1 kvs ep a, x = .ref a ∧ Rep C μ1 S1 H1 ∧ DictRel C μ1 H1 kvs ep a) ∧ Lift C W (RelD C.K) fk σ H1 fun y H2 => Lift C W (RelD C.K) fz σ H2 fun w H3 => ∃ μ3 S3 dx dy dw kvs ep a q, x = .ref a ∧ Rep C μ3 S3 H3 ∧ DictRel C μ3 H3 kvs ep a ∧ keyM dy = some q ∧ RelD C.K μ3 H3 dy y ∧ RelD C.K μ3 H3 dw w ∧ Good C W (RelD C.K) μ3 σ H3 Q (.ok ((lkM kvs q).getD dw) S3 : Res D) ∧ dx = D.non) I ?_) fun u s1 ⟨x, H1, I1, rx, ⟨μ1, S1, kvs, ep, a, ex, R1, dr⟩, q1⟩ => ?_)
  · refine Lift.step _ Stable.true R rs trivial h fun x H1 μ1 S1 dx g1 R1 rs1 _ rx h1 => ?_
    split at h1
    · rename_i p0 e0
      obtain ⟨n, ad, rfl, rfl, hm, q1, dr⟩ := getM_rel R1 rx e0
      refine ⟨⟨μ1, S1, p0.1, p0.2, ad, rfl, R1, dr⟩, ?_⟩
      refine Lift.step _ (Stable.rel (d := .ref n) (v := .ref ad)) R1 rs1 rx h1 fun y H2 μ2 S2 dy g2 R2 rs2 rx2 ry h2 => ?_
      refine Lift.step _ (Stable.and (Stable.rel (d := .ref n) (v := .ref ad)) (Stable.rel (d := dy) (v := y))) R2 rs2 ⟨rx2, ry⟩ h2 fun w H3 μ3 S3 dw g3 R3 rs3 rxy rw' h3 => ?_
      split at h3
      · rename_i p q e1 e2
        obtain ⟨n', ad', en, ead, hm', _, dr'⟩ := getM_rel R3 rxy.1 e1
        cases en; cases ead
        exact ⟨μ3, S3, .non, dy, dw, p.1, p.2, ad, q, rfl, R3, dr', e2, rxy.2, rw', h3, rfl⟩
      · exact h3.elim
    · exact h1.elim
  · subst ex
    obtain rfl : u = Value.ref a := rx
    obtain ⟨t1, t2, _⟩ := dict_type I1 dr
    refine ⟨t1, t2, ?_⟩
    rw [m.trees]
    refine Calls.callWith_builtin rfl (Calls.evalArgs_plain (Calls.spliced_cons (thn (hk.run pins s1 σ H1 _ I1 q1) fun iv s2 ⟨y, H2, I2, ry, q2⟩ =>
      Calls.spliced_cons (thn (hz.run pins s2 σ H2 _ I2 q2) fun fv s3 ⟨w, H3, I3, rw', μ3, S3, dx, dy, dw, kvs', ep', a', q, ea, R3, dr', e2, rdy, rdw, g, _⟩ => Calls.spliced_nil ?_))))
    cases ea
    exact dm_get2 (by omega) I3 o'.K o'.w dr' e2 rdy ry rdw rw' fun v w' s4 I4 h1 h2 => ⟨v, H3, I4, h1, Good.ok g .refl R3 h2⟩⟩
theorem RelK.snoc {μ : Mu} {H : Hp} : ∀ {kvs : List (D × D)} {es : List DictEntry} {k d : D} {e : DictEntry}, RelK C μ H kvs es → RelK C μ H [(k, d)] [e] → RelK C μ H (kvs ++ [(k, d)]) (es ++ [e])
  | [], es, k, d, e, h, h' => by cases (show es = [] from h); exact h'
  | (k0, d0) :: r, es, k, d, e, ⟨e', q, nk, h0, h1, h2, h3, h4, h5, h6⟩, h' => by
    subst h0
    exact ⟨e', q ++ [e], nk, rfl, h1, h2, h3, h4, h5, RelK.snoc h6 h'⟩
theorem RelK.mod {μ : Mu} {H : Hp} {q : NestedKey} {d : D} {v : V} {r : Value} (rv : RelV v r) (rd : RelD C.K μ H d v) : ∀ {kvs : List (D × D)} {es : List DictEntry} {j : Nat}, RelK C μ H kvs es → (kvs.map fun p => keyD p.1).Nodup → (kvs.map fun p => nkOf p.1)[j]? = some q →
    RelK C μ H (kvs.map fun kv => if keyD kv.1 = some q then (kv.1, d) else kv) (es.modify j fun e => { e with val := r })
  | [], es, j, h, _, z => by simp at z
  | (k0, d0) :: t, es, j, ⟨e', u, nk, h0, h1, h2, h3, h4, h5, h6⟩, hn, z => by
    subst h0
    rw [List.map_cons, List.nodup_cons] at hn
    have stay : ∀ (l : List (D × D)), (∀ kv ∈ l, keyD kv.1 ≠ some q) → (l.map fun kv => if keyD kv.1 = some q then (kv.1, d) else kv) = l := by
      intro l hl
      induction l with
      | nil => rfl
      | cons x l ih => rw [List.map_cons, if_neg (hl x List.mem_cons_self), ih fun y hy => hl y (List.mem_cons_of_mem _ hy)]
    cases j with
    | zero =>
      simp [nkOf, h1] at z
      subst z
      rw [List.map_cons, if_pos h1, stay t fun kv hkv e => hn.1 (List.mem_map.mpr ⟨kv, hkv, e.trans h1.symm⟩)]
      exact ⟨_, u, nk, rfl, h1, h2, h3, h4, ⟨v, rv, rd⟩, h6⟩
    | succ j =>
      have z' : (t.map fun p => nkOf p.1)[j]? = some q := by simpa using z
      obtain ⟨_, x, _, _, a2, _⟩ := RelK.val h6 hn.2 z'
      have ne : ¬ keyD k0 = some q := fun e0 => by
        apply hn.1
        unfold lkM at a2
        cases f : t.find? (fun kv => decide (keyD kv.1 = some q)) with
        | none => rw [f] at a2; cases a2
        | some x =>
          have := List.find?_some f
          exact List.mem_map.mpr ⟨x, List.mem_of_find?_eq_some f, (of_decide_eq_true this).trans e0.symm⟩
      rw [List.map_cons, if_neg ne]
      exact ⟨e', _, nk, rfl, h1, h2, h3, h4, h5, RelK.mod rv rd h6 hn.2 z'⟩
theorem ptM_keys (kvs : List (D × D)) (q : NestedKey) (d : D) : ((kvs.map fun kv => if keyD kv.1 = some q then (kv.1, d) else kv).map fun p => keyD p.1) = kvs.map fun p => keyD p.1 := by
  rw [List.map_map]
  apply List.map_congr_left
  intro kv _
  show keyD (if keyD kv.1 = some q then (kv.1, d) else kv).1 = _
  split <;> rfl
/-- d[y] = v -/
theorem dm_setItem {pins : List (Addr × Obj)} {σ : L2.St} {H : Hp} {s : Shared} {μ : Mu} {S : HS} {n : Nat} {A : Around} {E : Value → Shared → Prop} {Q : Unit → Shared → Prop} {kvs : List (D × D)} {ep : Nat} {a : Addr} {k d : D} {y v : V} {u r : Value} {q : NestedKey} (hu : A.units + 9 < cLine) (I : Inv X pins σ H s) (hK : X.K = C.K) (hw : X.w = C.w) (R : Rep C μ S H) (hm : μ n = some a) (h : DictRel C μ H kvs ep a)
    (hq : keyM k = some q) (rk : RelD C.K μ H k y) (ry : RelV y u) (rd : RelD C.K μ H d v) (rv : RelV v r) (hl : kvs.length < sizeLine)
    (hQ : ∀ H' s', G C.K μ H μ H' → Rep C μ (S.put n (.mix (ptM kvs q k d) (if (lkM kvs q).isSome = true then ep else ep + 1))) H' → Inv X pins σ H' s' → Q () s') : wpAny (model X.prog X.w) A (setItem (.ref a) u r) Q E s := by
  obtain ⟨o, es, g1, g2, g3, g4, g5, g6, g7, g8, g9⟩ := dm_raw I hK hw h
  obtain ⟨k1, k2⟩ := keyM_some hq
  have ki := keyD_is I hK k y u q k1 rk ry
  obtain ⟨t1, _, _⟩ := dict_type I h
  have mu : Mut (H a) := by rw [g9]; exact True.intro
  have hsz : es.size ≤ sizeLine := by rw [← g7.len, List.length_map]; exact g5
  unfold setItem
  try with_reducible refine wpAny_holding ?_
  refine wpAny_bind (wpAny_sequenceKey t1 (by decide) ?_)
  refine wpAny_bind (wpAny_callSpecial?_slot (name := Str.ofString "__setitem__") t1 slot_dict_setitem (wpAny_call_entry slot_dict_setitem t1 entry_dict_setitem ?_ (args_dict_setitem _ _ _)))
  show wpAny _ _ (Builtin.Dict.notOrdered "__setitem__" ⟨[.ref a, u, r], []⟩ >>= _) _ _ s
  refine wpAny_bind (wpAny_notOrdered_dict t1 ?_)
  show wpAny _ _ (dictSet a u r >>= _) _ _ s
  refine wpAny_bind ?_
  unfold dictSet
  try with_reducible refine wpAny_holding ?_
  refine wpAny_bind (pyHash_key q u A.in1 s _ ki (by rw [Around.in1_units]; omega) ?_)
  unfold dictSetHashed
  try with_reducible refine wpAny_holding ?_
  have fin : ∀ (f : Array DictEntry → Array DictEntry) (o' : Obj) (h' : Heap) (es' : Array DictEntry) (ep' : Nat) (kvs' : List (D × D)) (tk : Nat), h'.get? a = some o' → o'.ExactDict → o'.data = .dict es' ep' → Heap.SameBut a s.heap h' → kvs'.length ≤ sizeLine → (kvs'.map fun p => keyD p.1).Nodup → RelK C μ H kvs' es'.toList →
      ptM kvs q k d = kvs' → (if (lkM kvs q).isSome = true then ep else ep + 1) = ep' → Q () { s with heap := h', toks := tk } := by
    intro f o' h' es' ep' kvs' tk e1 e2 e3 hs hl' hn' hr' e4 e5
    have gg := G.put (u := extOf a o') R hm
    refine hQ (upd H a (extOf a o')) _ gg ?_ (d_write (t' := tk) I mu hs ⟨o', e1⟩ ⟨e1, ⟨o', e1⟩, fun h1 h2 x y => y _ x⟩)
    rw [e4, e5]
    exact R.put hm ⟨o', es', upd_same, e2, e3, g4, hl', hn', RelK.mono gg _ _ hr'⟩
  refine wpAny_bind (mFind (s := { s with toks := s.toks + q.draws }) (by rw [Around.in1_units]; omega) k2 ki g1 g3 g7 (fun no => ?_) fun j hj => ?_)
  · have nk := lkM_none g8 no
    refine wpAny_bind (wpAny_rule (wpAny_updateDictKeys (hz := hsz) (s := { s with toks := s.toks + q.draws }) g1 g3 ?_))
    refine wpAny_pure ⟨.none, rfl, wpAny_pure (fin id _ _ _ (ep + 1) (kvs ++ [(k, d)]) _ (Heap.get?_update_self _ g1 (Obj.isFreed_of_dict (Obj.data_mapDictKeys g3 _))) (g2.mapDictKeys _) (Obj.data_mapDictKeys g3 _) (Heap.SameBut.update ..) (by rw [List.length_append, List.length_cons, List.length_nil]; omega) ?_ ?_ ?_ ?_)⟩
    · rw [List.map_append, List.nodup_append]
      refine ⟨g6, by simp, ?_⟩
      intro x hx z hz
      simp only [List.map_cons, List.map_nil, List.mem_singleton] at hz
      obtain ⟨kv, hkv, rfl⟩ := List.mem_map.mp hx
      subst hz
      rw [k1]
      exact nk kv hkv
    · rw [Array.toList_push]
      exact RelK.snoc g8 ⟨_, [], q, rfl, k1, k2, by rw [hw], ⟨y, ry, rk⟩, ⟨v, rv, rd⟩, rfl⟩
    · unfold ptM
      rw [if_neg]
      rw [List.any_eq_true]
      rintro ⟨kv, hkv, e⟩
      exact nk kv hkv (of_decide_eq_true e)
    · rw [lkM_of_none nk]; rfl
  · obtain ⟨e, x, w', a1, a2, a3, a4⟩ := g8.val g6 hj
    refine wpAny_bind (wpAny_rule (wpAny_bind (wpAny_updateDict (s := { s with toks := s.toks + q.draws }) g1 g3 (wpAny_point ?_))))
    refine wpAny_pure ⟨.none, rfl, wpAny_pure (fin id _ _ _ ep (kvs.map fun kv => if keyD kv.1 = some q then (kv.1, d) else kv) _ (Heap.get?_update_self _ g1 (Obj.isFreed_of_dict (Obj.data_mapDict g3 _))) (g2.mapDict _) (Obj.data_mapDict g3 _) (Heap.SameBut.update ..) (by rw [List.length_map]; exact g5) ?_ ?_ ?_ ?_)⟩
    · rw [ptM_keys]; exact g6
    · rw [Array.toList_modify]
      exact RelK.mod rv rd g8 g6 hj
    · unfold ptM
      rw [if_pos]
      rw [List.any_eq_true]
      unfold lkM at a2
      cases f : kvs.find? (fun kv => decide (keyD kv.1 = some q)) with
      | none => rw [f] at a2; cases a2
      | some x' => exact ⟨x', List.mem_of_find?_eq_some f, by have := List.find?_some f; simpa using this⟩
    · rw [a2]; rfl
theorem smput (hu : X.A.units + 65 < cLine) (o' : Ok C X W) (ho : LE C X W o fo) (hi : LE C X W i fi) (hv : LE C X W e f) (hs : swapsWith e (some (.Subscript o i pos')) pos.line X.env = pure false := by rfl) : LS C X W (.Assign [.Subscript o i pos'] e pos) (mputS fo fi f) := ⟨fun pins s σ H Z I ⟨μ, sd, S, R, rs, h⟩ => by
  refine wpAny_Assign_Subscript (thn (hv.run pins s σ H (fun v H1 => Lift C W (RelD C.K) fo σ H1 fun x H2 => Lift C W (RelD C.K) fi σ H2 fun y H3 => ∃ μ3 S3 dv dx dy, Rep C μ3 S3 H3 ∧ RelS C.K μ3 H3 sd σ ∧ RelD C.K μ3 H3 dv v ∧ RelD C.K μ3 H3 dx x ∧ RelD C.K μ3 H3 dy y ∧ GoodS C W Z μ3 H3 (match dx with
    | .ref n => match S3.h n, keyM dy with
      | some (.mix kvs ep), some q => if kvs.length < sizeLine then .nx sd (S3.put n (.mix (ptM kvs q dy dv) (if (lkM kvs q).isSome = true then ep else ep + 1))) else .bad
      | _, _ => .bad
    | _ => .bad)) I ?_) fun r s1 ⟨v, H1, I1, rv, q1⟩ => thn (ho.run pins s1 σ H1 _ I1 q1) fun u s2 ⟨x, H2, I2, rx, q2⟩ => thn (hi.run pins s2 σ H2 _ I2 q2) fun iv s3 ⟨y, H3, I3, ry, μ3, S3, dv, dx, dy, R3, rs3, hdv, hdx, hdy, g⟩ => ?_) hs
  · refine LiftS.step _ Stable.true R rs trivial h fun x H1 μ1 S1 dx g1 R1 rs1 _ rx h1 => ?_
    refine LiftS.step _ (Stable.rel (d := dx) (v := x)) R1 rs1 rx h1 fun y H2 μ2 S2 dy g2 R2 rs2 rx2 ry h2 => ?_
    exact LiftS.step _ (Stable.and (Stable.rel (d := dx) (v := x)) (Stable.rel (d := dy) (v := y))) R2 rs2 ⟨rx2, ry⟩ h2 fun z H3 μ3 S3 dz g3 R3 rs3 rxy rz h3 => ⟨μ3, S3, dx, dy, dz, R3, rs3, rxy.1, rxy.2, rz, h3⟩
  · split at g
    · rename_i n
      split at g
      · rename_i kvs ep q e0 e2
        split at g
        · rename_i hl
          obtain ⟨ad, rfl, hm⟩ := hdx
          obtain ⟨ob, e6, dr⟩ := R3.obj n ad hm
          rw [e0] at e6; cases e6
          obtain rfl : u = Value.ref ad := rx
          exact dm_setItem (by omega) I3 o'.K o'.w R3 hm dr e2 hdy ry hdv rv hl fun H' s4 gg R4 I4 => ⟨σ, H', I4, g.nx gg R4 (rs3.mono gg)⟩
        · exact g.elim
      · exact g.elim
    · exact g.elim⟩
def rMIn (C : Ct) (neg : Bool) : R2 := fun x y H Q => ∃ (μ : Mu) (kvs : List (D × D)) (ep : Nat) (a : Addr) (k : D) (q : NestedKey), y = .ref a ∧ DictRel C μ H kvs ep a ∧ keyM k = some q ∧ RelD C.K μ H k x ∧ Q (.bl ((lkM kvs q).isSome != neg)) H
theorem op_mIn (hu : X.A.units + 65 < cLine) (o' : Ok C X W) : OpR X (compareOp .In) (rMIn C false) := by
  intro pins s σ H x y v u Q I rx ry ⟨μ, kvs, ep, a, k, q, e, dr, hq, rk, qq⟩
  subst e
  obtain rfl : u = Value.ref a := ry
  show wpAny _ _ (contains (.ref a) v >>= fun b => pure (Value.bool b)) _ _ s
  exact wpAny_bind (dm_contains (by omega) I o'.K o'.w dr hq rk rx fun s' I' => wpAny_pure ⟨.bl _, H, I', rfl, by rw [Bool.bne_false] at qq; exact qq⟩)
theorem op_mNotIn (hu : X.A.units + 65 < cLine) (o' : Ok C X W) : OpR X (compareOp .NotIn) (rMIn C true) := by
  intro pins s σ H x y v u Q I rx ry ⟨μ, kvs, ep, a, k, q, e, dr, hq, rk, qq⟩
  subst e
  obtain rfl : u = Value.ref a := ry
  show wpAny _ _ (contains (.ref a) v >>= fun b => pure (Value.bool (!b))) _ _ s
  exact wpAny_bind (dm_contains (by omega) I o'.K o'.w dr hq rk rx fun s' I' => wpAny_pure ⟨.bl _, H, I', rfl, by rw [Bool.bne_true] at qq; exact qq⟩)
theorem o2_mIn (neg : Bool) : O2 C W (rMIn C neg) (oMIn neg) := by
  intro μ S H x y dx dy σ Q R rx ry h
  unfold oMIn at h
  split at h
  · rename_i p q e1 e2
    obtain ⟨n, ad, rfl, rfl, hm, e0, dr⟩ := getM_rel R ry e1
    exact ⟨μ, p.1, p.2, ad, dx, q, rfl, dr, e2, rx, Good.ok h .refl R rfl⟩
  · exact h.elim
theorem lmin (hu : X.A.units + 65 < cLine) (o' : Ok C X W) (hi : LE C X W i fi) (ho : LE C X W o fo) (hb : behindInMarks .In o = false := by rfl) : LCmp C X W (.Compare i [.In] [o] pos) (b2 fi fo (oMIn false)) := lcmp (op_mIn hu o') (o2_mIn false) hi ho hb
theorem lmnin (hu : X.A.units + 65 < cLine) (o' : Ok C X W) (hi : LE C X W i fi) (ho : LE C X W o fo) (hb : behindInMarks .NotIn o = false := by rfl) : LCmp C X W (.Compare i [.NotIn] [o] pos) (b2 fi fo (oMIn true)) := lcmp (op_mNotIn hu o') (o2_mIn true) hi ho hb
/-! ### walks over keys -/
def DictAtH (H : Hp) (a : Addr) (N ep : Nat) (P : Array DictEntry → Prop) : Prop := ∃ (o : Obj) (es : Array DictEntry), H a = some (extOf a o) ∧ o.ExactDict ∧ o.data = .dict es ep ∧ (a == sysModules) = false ∧ es.size = N ∧ P es
def ItM (a : Addr) (N ep : Nat) : It := ⟨fun i H => DictAtH H a N ep (fun es => ∀ (i : Nat) (e : DictEntry), es[i]? = some e → ∃ v, RelV v e.key) ∧ i < N, fun i H x H' => H' = H ∧ ∀ (o : Obj) (es : Array DictEntry), H a = some (extOf a o) → o.data = .dict es ep → ∃ e, es[i]? = some e ∧ RelV x e.key, fun i H => DictAtH H a N ep (fun _ => True) ∧ N ≤ i⟩
theorem turn_keysM {P : Program} {w : World} {K : PySem.W.Frag} {tg : Expr} {d : Addr} {N ep : Nat} (it : Addr) : Turn P w K tg (ItM d N ep) [it] it (fun i h => h.IsKeyIter it d i N ep) where
  mem := List.mem_singleton.mpr rfl
  obj := fun i h st b hb => by
    obtain rfl : b = it := by simpa using hb
    obtain ⟨oi, e, c, dd⟩ := st
    exact ⟨oi, e, fun v z => by rw [dd] at z; cases z⟩
  keep := fun i h h' st k => st.at fun oi e => k it (List.mem_singleton.mpr rfl) oi e
  item := by
    rintro X rfl rfl rfl hC i pins s σ H E I hf st ⟨⟨o, es, a1, a2, a3, a4, a5, a6⟩, hi⟩
    obtain ⟨f0, f1, f2, f3, f4, f5⟩ := hf it (by simp)
    have gd := (I.hok d _ a1).1
    have li : i < es.size := by omega
    obtain ⟨v, hv⟩ := a6 i es[i] (Array.getElem?_eq_getElem li)
    refine next_key_item st gd a3 a5 (Array.getElem?_eq_getElem li) fun h' st' sb => ?_
    have I1 : Inv X pins σ H { s with heap := h' } := I.turned (t' := s.toks) (fun b ob hb z => (sb.2 b hb).trans z) f0 f1 f3 f4 f5
    obtain ⟨oi, e, c, dd⟩ := id st'
    exact ⟨es[i].key, rfl, go_of (s := { s with heap := h' }) e c dd (by decide) ⟨v, H, I1, hv, ⟨rfl, fun o2 es2 b1 b2 => by
      have z1 : s.heap.get? d = some o := gd
      have z2 : s.heap.get? d = some o2 := (I.hok d _ b1).1
      rw [z1] at z2
      cases z2
      rw [a3] at b2
      cases b2
      exact ⟨es[i], Array.getElem?_eq_getElem li, hv⟩⟩, st', fun b hb => (hf b hb).1⟩⟩
  done := by
    rintro X rfl rfl rfl hC i pins s σ H E I hf st ⟨⟨o, es, a1, a2, a3, a4, a5, _⟩, hi⟩
    obtain ⟨f0, f1, f2, f3, f4, f5⟩ := hf it (by simp)
    have gd := (I.hok d _ a1).1
    exact next_key_end (I.ok.hd hC) st gd a3 a5 hi fun h' eb => ⟨rfl, I.turned (t' := s.toks) (fun b ob hb z => eb b ob hb z) f0 f1 f3 f4 f5⟩
  self := fun A i s Q E st h => by
    have ty := st.typeIs
    refine wpAny_pyIter_slot ty F.slot_dict_keyiterator_iter (wpAny_call_entry F.slot_dict_keyiterator_iter ty F.entry_dict_keyiterator_iter ?_ (F.args_dict_keyiterator_iter_1 _))
    show wpAny _ _ (ret (Value.ref it)) _ _ s
    exact wpAny_pure ⟨Value.ref it, rfl, "dict_keyiterator", _, ty, F.slot_dict_keyiterator_next.lookup, h⟩
def itM (f : SE) : SI := fun sd s => (f sd s).bind fun x s1 => match x with
  | .ref n => match s1.h n with
    | some (.mix kvs ep) => .ok ⟨kvs.map (·.1), [(n, .mix kvs ep)]⟩ s1
    | _ => .bad
  | _ => .bad
theorem RelK.key {μ : Mu} {H : Hp} : ∀ {kvs : List (D × D)} {es : List DictEntry}, RelK C μ H kvs es → kvs.length = es.length ∧ ∀ (i : Nat) (e : DictEntry), es[i]? = some e → ∃ v k, RelV v e.key ∧ (kvs.map (·.1))[i]? = some k ∧ RelD C.K μ H k v
  | [], es, h => by cases (show es = [] from h); exact ⟨rfl, fun i e z => by simp at z⟩
  | (k, d) :: r, es, h => by
    obtain ⟨e, q, nk, rfl, h1, h2, h3, ⟨v, h4, h5⟩, _, h8⟩ := h
    obtain ⟨l, a⟩ := RelK.key h8
    refine ⟨by simp [l], fun i e' z => ?_⟩
    cases i with
    | zero => simp at z; subst z; exact ⟨v, k, h4, by simp, h5⟩
    | succ i =>
      obtain ⟨v', k', a1, a2, a3⟩ := a i e' (by simpa using z)
      exact ⟨v', k', a1, by simpa using a2, a3⟩
theorem itm {tg : Expr} (o' : Ok C X W) (h : LE C X W e f) : LI C X W tg e (itM f) := ⟨fun pins s σ H Rr I ⟨μ, sd, S, R, rs, hh⟩ => by
  refine thn (h.run pins s σ H (fun x H1 => ∃ a n μ1 S1 kvs ep, x = .ref a ∧ Rep C μ1 S1 H1 ∧ μ1 n = some a ∧ S1.h n = some (.mix kvs ep) ∧ Good C W (fun μ H r J => Walks C μ H J r) μ1 σ H1 Rr (.ok ⟨kvs.map (·.1), [(n, .mix kvs ep)]⟩ S1)) I ?_) fun u s1 ⟨x, H1, I1, rx, a, n, μ1, S1, kvs, ep, ex, R1, hm, e0, g⟩ => ?_
  · refine Lift.step _ Stable.true R rs trivial hh fun x H1 μ1 S1 dx g1 R1 rs1 _ rx h1 => ?_
    split at h1
    · rename_i n
      split at h1
      · rename_i kvs ep e0
        obtain ⟨a, rfl, hm⟩ := rx
        exact ⟨a, n, μ1, S1, kvs, ep, rfl, R1, hm, e0, h1⟩
      · exact h1.elim
    · exact h1.elim
  · subst ex
    obtain rfl : u = Value.ref a := rx
    obtain ⟨ob, e6, dr⟩ := R1.obj n a hm
    rw [e0] at e6; cases e6
    obtain ⟨o, es, g1, g2, g3, g4, g5, g6, g7, g8, g9⟩ := dm_raw I1 o'.K o'.w dr
    refine iter_keys g4 g1 g2 g3 (pi_one (tk := s1.toks) I1 _ (turn_keysM (d := a) (N := kvs.length) (ep := ep) _) ⟨_, Heap.get?_push_size _ rfl, rfl, ?_⟩ (Good.ok g .refl R1 ?_))
    · rw [show es.size = kvs.length by rw [← g7.len, List.length_map]] <;> rfl
    · intro μb hb μ2 H2 S2 gg R2 hs
      have e2 : S2.h n = some (.mix kvs ep) := hs (n, .mix kvs ep) (List.mem_singleton.mpr rfl)
      obtain ⟨ob, e7, dr2⟩ := R2.obj n a (gg.mu _ _ (by rw [hb.f]; exact hm))
      rw [e2] at e7; cases e7
      obtain ⟨o2, es2, b1, b2, b3, b4, b5, b6, b7⟩ := dr2
      obtain ⟨kl, ka⟩ := b7.key
      have hz : es2.size = kvs.length := by rw [← Array.length_toList, ← kl]
      intro i
      refine ⟨fun hi => ⟨⟨o2, es2, b1, b2, b3, b4, hz, fun j e z => ?_⟩, by simpa using hi⟩, fun hi => ⟨⟨o2, es2, b1, b2, b3, b4, hz, trivial⟩, by simpa using hi⟩, fun d x H3 hd hy => ?_⟩
      · obtain ⟨v, _, q, _⟩ := ka j e (by rw [Array.getElem?_toList]; exact z)
        exact ⟨v, q⟩
      · obtain ⟨rfl, hy⟩ := hy
        obtain ⟨e, c6, c7⟩ := hy o2 es2 b1 b3
        obtain ⟨v, k, q1, q2, q3⟩ := ka i e (by rw [Array.getElem?_toList]; exact c6)
        have : x = v := RelV.inj c7 q1
        subst this
        rw [show ({ ds := kvs.map (·.1), live := [(n, DO.mix kvs ep)] } : Src).ds = kvs.map (·.1) from rfl, q2] at hd
        cases hd
        exact ⟨.refl, R2, q3⟩⟩
end
/-! ### zip of lists or of tuples -/
def itZA (g : SA) : SI := fun sd s => (g sd s).bind fun xs s1 => match xs with
  | [.tup ds, .tup es] => .ok ⟨zipD ds es, []⟩ s1
  | [x, y] => match srcL s1 x, srcL s1 y with
    | some (ds, l), some (es, m) => .ok ⟨zipD ds es, l ++ m⟩ s1
    | _, _ => .bad
  | _ => .bad
section
variable {C : Ct} {X : Cx} {W : WX} {tg e e2 a b : Expr} {f : SE} {g : SA} {pos p : Pos}
theorem itza {elts : List Expr} {kk : Nat} {tpos : Pos} (o : Ok C X W) (hg : Gl X "zip") (hm : X.mg "zip" = none) (ha : LA C X W [e, e2] g) (hs : starEach [e, e2] X.env = (false, eval e X.env) :: starEach [e2] X.env := by rfl) (hpl : (backTo pos (starEach [e2] X.env)).any (·.1) = false := by rfl) :
    LI C X W (.Tuple elts kk tpos) (.Call (.Name "zip" p) [e, e2] [] pos) (itZA g) := PI.imp (RZ.pi_zipA hg hm ha hs hpl) fun σ H Rr h => Lift.k h fun sd x H1 μ1 S1 dx R1 rs1 rx h1 => by
  split at h1
  · rename_i ds es
    obtain ⟨v, u, rfl, rv, ru⟩ := rx.l2
    obtain ⟨ad, vs, rfl, ht, rr⟩ := rv
    obtain ⟨bd, us, rfl, hu, ru⟩ := ru
    rw [o.K]
    refine ⟨ad, bd, vs, us, rfl, .inr ⟨ht, hu, ?_⟩⟩
    refine Good.ok h1 .refl R1 fun μb hb μ2 H2 S2 g R2 hs i => ?_
    have q1 := g.tp _ _ ht
    have q2 := RelDs.mono g _ _ (rr.bn hb)
    have q3 := g.tp _ _ hu
    have q4 := RelDs.mono g _ _ (ru.bn hb)
    have hl1 := q2.len
    have hl2 := q4.len
    refine ⟨fun hi => ?_, fun hi => ⟨vs, us, q1, q3, ?_⟩, fun d x H3 e hy => ?_⟩
    · obtain ⟨x, y, _, h2, h3⟩ := zipD_get (List.getElem?_eq_getElem hi)
      obtain ⟨v, h4, _⟩ := q2.get h2
      obtain ⟨w', h5, _⟩ := q4.get h3
      exact ⟨vs, us, v, w', q1, q3, h4, h5⟩
    · have : (zipD ds es).length ≤ i := hi
      rw [zipD_len] at this
      omega
    · obtain ⟨T, x', y', rfl, hT, rfl, hx, hy⟩ := hy
      obtain ⟨x, y, rfl, h2, h3⟩ := zipD_get e
      obtain ⟨v, h4, r4⟩ := q2.get h2
      obtain ⟨w', h5, r5⟩ := q4.get h3
      have e4 := hx vs q1
      have e5 := hy us q3
      rw [h4] at e4; cases e4
      rw [h5] at e5; cases e5
      exact tup_good R2 hT ⟨_, _, rfl, r4, _, _, rfl, r5, rfl⟩
  · rename_i dx dy _
    obtain ⟨v, u, rfl, rv, ru⟩ := rx.l2
    split at h1
    · rename_i ds l es m e1 e2
      obtain ⟨ad, rfl, ⟨vs, hd⟩, k1⟩ := srcL_rel R1 rv e1
      obtain ⟨bd, rfl, ⟨us, hu⟩, k2⟩ := srcL_rel R1 ru e2
      rw [o.K]
      refine ⟨ad, bd, vs, us, rfl, .inl ⟨hd, hu, ?_⟩⟩
      refine Good.ok h1 .refl R1 fun μb hb μ2 H2 S2 g R2 hs i => ?_
      obtain ⟨vs, q1, q2⟩ := k1 μb hb μ2 H2 S2 g R2 fun p hp => hs p (List.mem_append_left _ hp)
      obtain ⟨us, q3, q4⟩ := k2 μb hb μ2 H2 S2 g R2 fun p hp => hs p (List.mem_append_right _ hp)
      have hl1 := q2.len
      have hl2 := q4.len
      refine ⟨fun hi => ?_, fun hi => ⟨vs, us, q1, q3, ?_⟩, fun d x H3 e hy => ?_⟩
      · obtain ⟨x, y, _, h2, h3⟩ := zipD_get (List.getElem?_eq_getElem hi)
        obtain ⟨v, h4, _⟩ := q2.get h2
        obtain ⟨w', h5, _⟩ := q4.get h3
        exact ⟨vs, us, v, w', q1, q3, h4, h5⟩
      · have : (zipD ds es).length ≤ i := hi
        rw [zipD_len] at this
        omega
      · obtain ⟨T, x', y', rfl, hT, rfl, hx, hy⟩ := hy
        obtain ⟨x, y, rfl, h2, h3⟩ := zipD_get e
        obtain ⟨v, h4, r4⟩ := q2.get h2
        obtain ⟨w', h5, r5⟩ := q4.get h3
        have e4 := hx vs q1
        have e5 := hy us q3
        rw [h4] at e4; cases e4
        rw [h5] at e5; cases e5
        exact tup_good R2 hT ⟨_, _, rfl, r4, _, _, rfl, r5, rfl⟩
    · exact h1.elim
  · exact h1.elim
end
end DL
end
section
/-! DL11: ranges with a step. -/
namespace DL
open PySem PySem.Spec PyProof.Rows L2
def rngC (lo c : Int) (n : Nat) : List D := (List.range n).map fun i => .int (lo + (i : Nat) * c)
def itR3 (g : SA) : SI := fun sd s => (g sd s).bind fun xs s1 => match xs with
  | [.int i, .int j, .int c] => if 0 < c ∧ c < 1000 ∧ Builtin.Range.small i j c = true then .ok ⟨rngC i c (if i < j then (j - i - 1) / c + 1 else 0).toNat, []⟩ s1 else .bad
  | _ => .bad
section
variable {C : Ct} {X : Cx} {W : WX} {tg a b c : Expr} {g : SA} {pos p : Pos}
theorem rngC_len (lo c : Int) (n : Nat) : (rngC lo c n).length = n := by simp [rngC]
theorem walks_rngC {μ : Mu} {H : Hp} (lo c : Int) (n : Nat) : Walks C μ H (Itc lo c n) ⟨rngC lo c n, []⟩ := fun μb hb μ2 H2 S2 g R2 hs i => by
  refine ⟨fun hi => by rw [rngC_len] at hi; exact hi, fun hi => by rw [rngC_len] at hi; exact hi, fun d x H3 e hy => ?_⟩
  obtain ⟨eH, hx⟩ := hy
  subst eH; subst hx
  refine ⟨.refl, R2, ?_⟩
  unfold rngC at e
  rw [List.getElem?_map] at e
  cases q : (List.range n)[i]? with
  | none => rw [q] at e; cases e
  | some j =>
    rw [q] at e
    cases e
    have : j = i := by
      rw [List.getElem?_eq_some_iff] at q
      obtain ⟨h, e⟩ := q
      simpa using e.symm
    subst this
    exact rfl
theorem itr3 (hg : Gl X "range") (hm : X.mg "range" = none) (ha : LA C X W [a, b, c] g) (hs : starEach [a, b, c] X.env = (false, eval a X.env) :: starEach [b, c] X.env := by rfl) (hpl : (backTo pos (starEach [b, c] X.env)).any (·.1) = false := by rfl) : LI C X W tg (.Call (.Name "range" p) [a, b, c] [] pos) (itR3 g) := PI.imp (pi_range3 hg hm ha hs hpl) fun σ H Rr h => Lift.k h fun sd x H1 μ1 S1 dx R1 rs1 rx h1 => by
  split at h1
  · rename_i i j k
    obtain ⟨v, r, e, rv, r2⟩ := rx
    obtain ⟨u, w, rfl, ru, rw_⟩ := r2.l2
    subst e
    cases (show v = .int i from rv); cases (show u = .int j from ru); cases (show w = .int k from rw_)
    split at h1
    · rename_i hj
      refine ⟨i, j, k, (if i < j then (j - i - 1) / k + 1 else 0).toNat, rfl, ⟨by omega, by omega, hj.2.2, ?_⟩, Good.ok h1 .refl R1 (walks_rngC i k _)⟩
      have h0 : 0 ≤ (if i < j then (j - i - 1) / k + 1 else 0) := by
        split
        · have := Int.ediv_nonneg (show 0 ≤ j - i - 1 by omega) (show 0 ≤ k by omega); omega
        · omega
      unfold Builtin.Range.rangeSize
      rw [if_pos (show k > 0 from hj.1), Int.toNat_of_nonneg h0]
    · exact h1.elim
  · exact h1.elim
end
end DL
end
section
/-! DL12: nested targets. -/
namespace DL
open PySem PySem.Spec PyProof.Rows L2
def tgSq : List TgD → List D → Sl → Option Sl
  | [], [], sd => some sd
  | t :: ts, d :: ds, sd => (t sd d).bind (tgSq ts ds)
  | _, _, _ => none
def tgP (ts : List TgD) : TgD := fun sd d => match d with
  | .tup ds => if ds.length = ts.length then tgSq ts ds sd else none
  | _ => none
structure TgsOk (C : Ct) (u : TGs) (is : List Nat) (ts : List TgD) : Prop where
  ok : ∀ (μ : Mu) (H : Hp) (sd sd' : Sl) (σ : L2.St) (ds : List D) (vs : List V) (Q : L2.St → Hp → Prop), RelS C.K μ H sd σ → RelDs C.K μ H ds vs → tgSq ts ds sd = some sd' →
    (∀ σ', RelS C.K μ H sd' σ' → (∀ vs : List Nat, (∀ i ∈ is, i ∈ vs) → wipe σ' vs = wipe σ vs) → Q σ' H) → u vs σ H Q
theorem tgsnil {C : Ct} : TgsOk C gNil [] [] := ⟨fun μ H sd sd' σ ds vs Q rs r e k => by
  cases ds with
  | nil =>
    cases e
    exact ⟨r, k σ rs fun _ _ => rfl⟩
  | cons _ _ => cases e⟩
theorem tgscons {C : Ct} {g : TG} {u : TGs} {is js : List Nat} {t : TgD} {ts : List TgD} (h1 : TgOk C g is t) (h2 : TgsOk C u js ts) : TgsOk C (gCons g u) (is ++ js) (t :: ts) := ⟨fun μ H sd sd' σ ds vs Q rs r e k => by
  cases ds with
  | nil => cases e
  | cons d ds =>
    obtain ⟨v, w, rfl, r1, r2⟩ := r
    cases e1 : t sd d with
    | none => rw [tgSq, e1] at e; cases e
    | some sd1 =>
      rw [tgSq, e1] at e
      refine ⟨v, w, rfl, h1.ok μ H sd sd1 σ d v _ rs r1 e1 fun σ1 rs1 w1 => ?_⟩
      refine h2.ok μ H sd1 sd' σ1 ds w Q rs1 r2 e fun σ' rs' w' => k σ' rs' fun vs hv => ?_
      rw [w' vs fun i hi => hv i (List.mem_append_right _ hi), w1 vs fun i hi => hv i (List.mem_append_left _ hi)]⟩
theorem tgp {C : Ct} {u : TGs} {is : List Nat} {ts : List TgD} (h : TgsOk C u is ts) : TgOk C (gTup C.K ts.length u) is (tgP ts) := ⟨fun μ H sd sd' σ d v Q rs r e k => by
  unfold tgP at e
  split at e
  · rename_i ds
    split at e
    · rename_i hl
      obtain ⟨ad, vs, rfl, ht, rr⟩ := r
      exact ⟨ad, vs, rfl, ht, by rw [← rr.len, hl], h.ok μ H sd sd' σ ds vs Q rs rr e k⟩
    · cases e
  · cases e⟩
/-! ### constants that are tuples -/
theorem lctup {C : Ct} {X : Cx} {W : WX} {x : Str} {pos : Pos} {d : D} (hg : Gl X x) (hm : ∃ v u, X.mg x = some u ∧ L2.RelV v u ∧ ∀ μ H, RelD C.K μ H d v) (hd : (x == ("__debug__" : Str)) = false := by decide) : LE C X W (.Name x pos) (c_ d) := by
  obtain ⟨v, u, e, r, h⟩ := hm
  exact lc h (pe_glob hg e r hd)
theorem kd_tup {K : PySem.W.Frag} {a : Addr} {ds : List D} {vs : List V} {its : Array Value} {od : Option Addr} {n : Nat} {sl : Array (Option Value)} (h : K.lookup a = some ⟨.type "tuple", od, .seq its n, sl⟩) (hl : its.size ≤ 1000) (hv : L2.Vals vs its.toList) (hr : ∀ μ H, RelDs K μ H ds vs) (μ : Mu) (H : Hp) : RelD K μ H (.tup ds) (.ref a) :=
  ⟨a, vs, rfl, .inr ⟨_, its, n, h, rfl, rfl, Nat.le_trans hl (by rw [sizeLine_eq]; decide), hv⟩, hr μ H⟩
end DL
end
section
/-! DL13: sorted by a key that a def of the text gives. -/
namespace DL
open PySem PySem.Spec PyProof.Rows L2
open PySem.W (EachIs AllAlike Sortable SortsAt dataKind dataLe keyedOut_each alike KeyedOut)
/-- the key that a function gives, where it changes nothing -/
noncomputable def keyF (F : FN) (s : HS) (d : D) : Option Str := by
  classical exact if h : ∃ k, F [d] s = .ok (.str k) s then some h.choose else none
theorem keyF_some {F : FN} {s : HS} {d : D} {k : Str} (h : keyF F s d = some k) : F [d] s = .ok (.str k) s := by
  unfold keyF at h
  split at h
  · rename_i q; cases h; exact q.choose_spec
  · cases h
theorem keyF_of {F : FN} {s : HS} {d : D} {k : Str} (h : F [d] s = .ok (.str k) s) : keyF F s d = some k := by
  have q : ∃ k, F [d] s = .ok (.str k) s := ⟨k, h⟩
  have e := h.symm.trans q.choose_spec
  unfold keyF
  rw [dif_pos q]
  injection e with e _
  injection e with e
  rw [← e]
noncomputable def keyO (F : FN) (s : HS) (d : D) : Str := (keyF F s d).getD Str.empty
noncomputable def sortF (F : FN) (s : HS) (ds : List D) : List D := ds.mergeSort fun a b => decide ((keyO F s a).cps.toList ≤ (keyO F s b).cps.toList)
open Classical in
noncomputable def oSortF (F : FN) (xs : List D) (s : HS) : Res D := match xs with
  | [x] => match getL s x with
    | some ds => if ∀ d ∈ ds, (keyF F s d).isSome = true then mkL false (sortF F s ds) s else .bad
    | none => .bad
  | _ => .bad
section
variable {C : Ct} {X : Cx} {k : Nat} {f : Addr} {fd : FuncData} {ps : List Str} {F : FN}
/-- the two lists under way, as they stand -/
def twoPins (a kS : Addr) (e1 : Nat) (kA : Array Value) (e : Nat) : List (Addr × Obj) := [(a, seqObj "list" #[] e1), (kS, seqObj "list" kA e)]
/-- a key call -/
theorem key_call {A : Around} {pins : List (Addr × Obj)} {σ : L2.St} {H : Hp} {s : Shared} {μ : Mu} {S : HS} {d : D} {v : V} {u : Value} {z : Str} (FF : FnOk X.prog X.w X.K X.mg X.base (L2.CX X.prog X.w) k f fd ps (spD C 1 F)) (hb : Binds X.K fd ps []) (hK : X.K = C.K) (hr : Room k A) (hA : A = X.A.in1.in1)
    (I : Inv X pins σ H s) (R : Rep C μ S H) (r : RelD C.K μ H d v) (rv : RelV v u) (hz : F [d] S = .ok (.str z) S) {E : Value → Shared → Prop} :
    wpAny (model X.prog X.w) A (call (.ref f) [u]) (fun w s' => (∃ t, w = .str z t) ∧ ∃ μ' H', Inv X pins σ H' s' ∧ G C.K μ H μ' H' ∧ Rep C μ' S H') E s := by
  have sp : spD C 1 F [v] H (fun x H' => x = .str z ∧ ∃ μ', G C.K μ H μ' H' ∧ Rep C μ' S H') (fun _ _ _ => False) := by
    refine ⟨rfl, μ, [d], S, R, ⟨v, [], rfl, r, rfl⟩, ?_⟩
    rw [hz]
    intro μ' H' b g R' rb
    exact ⟨rb, μ', g, R'⟩
  have hl : ([u] : List Value).length = ps.length := by rw [← FF.len _ _ _ _ sp]; rfl
  have en : Env0 X.prog X.w X.K X.mg X.base A X.stack s H := by rw [hA]; exact I.env0.in1.in1
  have bi := hb s [u] I.kIn (by simpa using hl)
  rw [List.append_nil] at bi
  refine wpAny_call (codeAny_mono (FF.run A X.stack s H ⟨[u], []⟩ [u] [v] _ _ hr en bi (.cons rv .nil) sp) fun q s' hq => ?_)
  cases q with
  | error e =>
    obtain ⟨_, _, _, _, _, _, _, _, _, _, _, _, z⟩ := hq
    exact z.elim
  | ok fl =>
    cases fl with
    | ret w =>
      obtain ⟨x, H', I', rx, hx, μ', g, R'⟩ := I.after hq
      subst hx
      exact ⟨rx, μ', H', I', g, R'⟩
    | next => exact False.elim hq
    | brk => exact False.elim hq
    | cont => exact False.elim hq
/-- an item and its key -/
abbrev Itm := V × D
def ItR (u : Value) (b : Itm) : Prop := RelV b.1 u
theorem items_each : ∀ {vs : List V} {us : List Value} {ds : List D}, Vals vs us → vs.length = ds.length → EachIs ItR us (vs.zip ds)
  | [], _, [], .nil, _ => .nil
  | v :: vs, _, d :: ds, .cons r q, h => .cons r (items_each q (by simpa using h))
theorem vals_get : ∀ {vs : List V} {us : List Value} {i : Nat} {v : V}, Vals vs us → vs[i]? = some v → ∃ u, us[i]? = some u ∧ RelV v u
  | v :: _, _, 0, w, .cons r q, h => by
    have h : v = w := by simpa using h
    exact ⟨_, by simp, h ▸ r⟩
  | _ :: vs, _, i + 1, w, .cons r q, h => by
    obtain ⟨u, e, z⟩ := vals_get (i := i) q (by simpa using h)
    exact ⟨u, by simpa using e, z⟩
/-- the keys got so far -/
def KeysGot (us : List Value) (zs : List Str) : Prop := EachIs (fun u z => ∃ t, u = Value.str z t) us zs
theorem KeysGot.snoc {us : List Value} {zs : List Str} {z : Str} {t : Tok} (h : KeysGot us zs) : KeysGot (us ++ [.str z t]) (zs ++ [z]) := by
  induction h with
  | nil => exact .cons ⟨t, rfl⟩ .nil
  | cons r _ ih => exact .cons r ih
theorem KeysGot.reads {us : List Value} {zs : List Str} (h : KeysGot us zs) (g : Heap) : EachIs (fun v d => ∃ as, Reads g v d as) us (zs.map PyData.str) := by
  induction h with
  | nil => exact .nil
  | cons r _ ih =>
    obtain ⟨t, rfl⟩ := r
    exact .cons ⟨[], .str _ t⟩ ih
theorem strs_alike (zs : List Str) : AllAlike (zs.map PyData.str) := fun d hd e he => by
  obtain ⟨a, _, rfl⟩ := List.mem_map.mp hd
  obtain ⟨b, _, rfl⟩ := List.mem_map.mp he
  simp [alike]
theorem strs_sortable (zs : List Str) : Sortable (zs.map PyData.str) := .inr fun d hd => by
  obtain ⟨a, _, rfl⟩ := List.mem_map.mp hd
  exact ⟨by simp, by simp⟩
end
section
variable {C : Ct} {X : Cx} {k : Nat} {f : Addr} {fd : FuncData} {ps : List Str} {F : FN}
/-- both lists under way are ours -/
structure Ours (X : Cx) (pins : List (Addr × Obj)) (a kS : Addr) : Prop where
  fa : ∀ {H : Hp}, H a = none → FpOk X pins H a
  fk : ∀ {H : Hp}, H kS = none → FpOk X pins H kS
  ne : kS ≠ a
theorem Ours.pin {pins : List (Addr × Obj)} {σ : L2.St} {H : Hp} {s : Shared} {a kS : Addr} {e1 e : Nat} {kA : Array Value} (o : Ours X pins a kS) (I : Inv X pins σ H s) (ha : s.heap.get? a = some (seqObj "list" #[] e1)) (hk : s.heap.get? kS = some (seqObj "list" kA e)) (na : H a = none) (nk : H kS = none) :
    Inv X (pins ++ twoPins a kS e1 kA e) σ H s := I.pins_of fun p hp => by
  rcases List.mem_append.mp hp with z | z
  · exact I.pin p (List.mem_append_right _ z)
  · simp only [twoPins, List.mem_cons, List.not_mem_nil, or_false] at z
    rcases z with rfl | rfl
    · exact ⟨ha, na, (o.fa na).2.1, (o.fa na).2.2.1, fun v h => by cases h⟩
    · exact ⟨hk, nk, (o.fk nk).2.1, (o.fk nk).2.2.1, fun v h => by cases h⟩
theorem pins_at {pins : List (Addr × Obj)} {σ : L2.St} {H : Hp} {s : Shared} {a kS : Addr} {e1 e : Nat} {kA : Array Value} (I : Inv X (pins ++ twoPins a kS e1 kA e) σ H s) : s.heap.get? a = some (seqObj "list" #[] e1) ∧ H a = none ∧ s.heap.get? kS = some (seqObj "list" kA e) ∧ H kS = none := by
  have h1 := I.pin (a, seqObj "list" #[] e1) (by simp [twoPins])
  have h2 := I.pin (kS, seqObj "list" kA e) (by simp [twoPins])
  exact ⟨h1.1, h1.2.1, h2.1, h2.2.1⟩
/-- all keys are got, then the items are put in order -/
theorem key_rest {A : Around} {pins : List (Addr × Obj)} {σ : L2.St} {H : Hp} {s : Shared} {μ : Mu} {S : HS} {a kS : Addr} {e1 : Nat} {vs : List V} {us : List Value} {ds : List D} {E : Value → Shared → Prop} {Q : PySem.Fin → Shared → Prop}
    (FF : FnOk X.prog X.w X.K X.mg X.base (L2.CX X.prog X.w) k f fd ps (spD C 1 F)) (hb : Binds X.K fd ps []) (hK : X.K = C.K) (hr : Room k A) (hA : A = X.A.in1.in1) (O : Ours X pins a kS)
    (I : Inv X (pins ++ twoPins a kS e1 #[] 0) σ H s) (R : Rep C μ S H) (r : RelDs C.K μ H ds vs) (rv : Vals vs us) (hz : us.length ≤ sizeLine) (hF : ∀ d ∈ ds, F [d] S = .ok (.str (keyO F S d)) S)
    (hQ : ∀ (s' : Shared) (out : List Value) (e : Nat) (H' : Hp) (μ' : Mu), Inv X pins σ H' s' → G C.K μ H μ' H' → Rep C μ' S H' → H' a = none → s'.heap.get? a = some (seqObj "list" out.toArray e) → EachIs ItR out ((vs.zip ds).mergeSort (dataLe false fun b => .str (keyO F S b.2))) → Q (.done (.ret .none)) s') :
    wpAny (model X.prog X.w) A (ksk_rest a (.ref f) false us.toArray e1 (.ref kS)) Q E s := by
  have hlen : vs.length = ds.length := r.len.symm
  have hul : us.length = ds.length := by rw [← rv.length]; exact hlen
  unfold ksk_rest
  refine wpAny_bind (wpAny_rule ?_)
  rw [List.forIn_toArray]
  refine wpAny_bind (ksk_fold (fun j s' => ∃ (H' : Hp) (μ' : Mu) (kA : Array Value) (e : Nat), Inv X (pins ++ twoPins a kS e1 kA e) σ H' s' ∧ G C.K μ H μ' H' ∧ Rep C μ' S H' ∧ KeysGot kA.toList ((ds.map (keyO F S)).take j)) us 0 s ⟨H, μ, #[], 0, I, .refl, R, by simpa [KeysGot] using EachIs.nil⟩ ?turn ?last)
  case turn =>
    rintro j u s' hu ⟨H', μ', kA, e, I', g, R', got⟩
    rw [Nat.zero_add] at got ⊢
    have hj : j < us.length := (List.getElem?_eq_some_iff.mp hu).1
    obtain ⟨d, hd⟩ : ∃ d, ds[j]? = some d := ⟨_, List.getElem?_eq_getElem (by omega)⟩
    obtain ⟨v, hv, rd⟩ := r.get hd
    obtain ⟨u', hu', ru⟩ : ∃ u', us[j]? = some u' ∧ RelV v u' := by
      exact vals_get rv hv
    rw [hu] at hu'; cases hu'
    have kd := hF d (List.mem_of_getElem? hd)
    refine wpAny_bind (wpAny_attempt (wpAny_mono (key_call FF hb hK hr hA I' R' (RelD.mono g d v rd) ru kd) (fun w s2 hw => ?_) fun _ _ z => z))
    obtain ⟨⟨t, rfl⟩, μ2, H2, I2, g2, R2⟩ := hw
    dsimp only
    obtain ⟨pa, na, pk, nk⟩ := pins_at I2
    have hks : kA.size ≤ sizeLine := by
      have : kA.toList.length = ((ds.map (keyO F S)).take j).length := got.length
      rw [Array.length_toList, List.length_take] at this
      omega
    refine wpAny_bind (listUpdate_at pk rfl ?_ hks (by rw [Array.size_push]; omega))
    have sb := Heap.SameBut.update s2.heap kS (Obj.mapSeq (·.push (Value.str (keyO F S d) t)))
    obtain ⟨e2, he2⟩ : ∃ e2, (s2.heap.update kS (Obj.mapSeq (·.push (Value.str (keyO F S d) t)))).get? kS = some (seqObj "list" (kA.push (.str (keyO F S d) t)) e2) := ⟨_, get?_update_seq pk _⟩
    have I3 : Inv X pins σ H2 { s2 with heap := s2.heap.update kS (Obj.mapSeq (·.push (Value.str (keyO F S d) t))), toks := s2.toks } :=
      (Inv.unpinned I2).turnedL (ch := [kS]) (fun b o hb q => (sb.2 b (by simpa using hb)).trans q) fun b hb => by
        have : b = kS := by simpa using hb
        rw [this]; exact O.fk nk
    have I4 := O.pin I3 ((sb.2 a O.ne.symm).trans pa) he2 na nk
    refine wpAny_pure ⟨rfl, H2, μ2, _, e2, I4, g.trans g2, R2, ?_⟩
    have ek : (ds.map (keyO F S)).take (j + 1) = (ds.map (keyO F S)).take j ++ [keyO F S d] := by
      rw [List.take_add_one, List.getElem?_map, hd]; rfl
    rw [ek, Array.toList_push]
    exact got.snoc
  case last =>
    rintro s' ⟨H', μ', kA, e, I', g, R', got⟩
    rw [Nat.zero_add, List.take_of_length_le (by rw [List.length_map]; omega)] at got
    obtain ⟨pa, na, pk, nk⟩ := pins_at I'
    refine wpAny_bind (listItems_at pk rfl ?_)
    obtain ⟨G0, g1, g2⟩ := restrict s'.heap fun b => decide (b ≠ kS)
    have gk : G0.get? kS = none := g2 kS (by simp)
    have gg : ∀ b, b ≠ kS → G0.get? b = s'.heap.get? b := fun b hb => g1 b (by simpa using hb)
    have kp : PySem.W.KeepsBut a G0 s'.heap := fun b o hb q => by
      by_cases e : b = kS
      · rw [e, gk] at q; cases q
      · rw [← gg b e]; exact q
    have hks : kA.size = us.length := by
      have : kA.toList.length = (ds.map (keyO F S)).length := got.length
      rw [Array.length_toList, List.length_map] at this
      omega
    have rds := got.reads s'.heap
    have SA : SortsAt X.prog X.w A s' (dataKind s'.heap ((ds.map (keyO F S)).map PyData.str)) kA.toList := SortsAt.data rds (strs_alike _) (strs_sortable _) fun d hd => by
      obtain ⟨z, _, rfl⟩ := List.mem_map.mp hd
      have := hr.un
      show A.units + 0 < cLine
      omega
    refine PySem.W.keyH_end (vs := us) (h₁ := G0) kp gk pk pa O.ne SA hks hz fun h' tk c kb ha => ?_
    have I5 : Inv X pins σ H' { s' with heap := h', toks := tk } := (Inv.unpinned I').turnedL (ch := [a, kS]) (fun b o hb q => by
        simp only [List.mem_cons, List.not_mem_nil, or_false, not_or] at hb
        exact kb b o hb.1 ((gg b hb.2).trans q)) fun b hb => by
        simp only [List.mem_cons, List.not_mem_nil, or_false] at hb
        rcases hb with rfl | rfl
        · exact O.fa na
        · exact O.fk nk
    refine hQ _ _ c H' μ' I5 g R' na ha ?_
    have ez : (vs.zip ds).map (fun b => PyData.str (keyO F S b.2)) = (ds.map (keyO F S)).map PyData.str := by
      rw [List.map_map]
      have : (fun b : Itm => PyData.str (keyO F S b.2)) = (PyData.str ∘ keyO F S) ∘ Prod.snd := rfl
      rw [this, ← List.map_map, List.map_snd_zip (by omega)]
    refine keyedOut_each (rev := false) (fun b : Itm => PyData.str (keyO F S b.2)) ?_ (items_each rv hlen)
    rw [ez]
    exact ⟨s'.heap, kA.toList, strs_alike _, rfl, rds⟩
/-- the sorted items, as values and as data -/
theorem out_vals : ∀ {us : List Value} {bs : List Itm}, EachIs ItR us bs → Vals (bs.map Prod.fst) us
  | _, _, .nil => .nil
  | _, _, .cons r q => .cons r (out_vals q)
theorem rels_pairs {K : PySem.W.Frag} {μ : Mu} {H : Hp} : ∀ {bs : List Itm}, (∀ b ∈ bs, RelD K μ H b.2 b.1) → RelDs K μ H (bs.map Prod.snd) (bs.map Prod.fst)
  | [], _ => rfl
  | b :: bs, h => ⟨b.1, bs.map Prod.fst, rfl, h b List.mem_cons_self, rels_pairs fun x hx => h x (List.mem_cons_of_mem _ hx)⟩
theorem rels_zip {K : PySem.W.Frag} {μ : Mu} {H : Hp} : ∀ {ds : List D} {vs : List V}, RelDs K μ H ds vs → ∀ b ∈ vs.zip ds, RelD K μ H b.2 b.1
  | [], _, _, b, hb => by simp at hb
  | d :: ds, _, ⟨v, r, e, h1, h2⟩, b, hb => by
    subst e
    rw [List.zip_cons_cons] at hb
    rcases List.mem_cons.mp hb with rfl | hb
    · exact h1
    · exact rels_zip h2 b hb
/-- sorting pairs by their data is sorting the data -/
theorem sort_snd (g : D → Str) (bs : List Itm) : (bs.mergeSort fun a b => decide ((g a.2).cps.toList ≤ (g b.2).cps.toList)).map Prod.snd = (bs.map Prod.snd).mergeSort fun a b => decide ((g a).cps.toList ≤ (g b).cps.toList) := by
  exact List.map_mergeSort (f := Prod.snd) (fun a ha b hb => rfl)
/-- sorted(.., key=f) -/
theorem cr_keyed (FF : FnOk X.prog X.w X.K X.mg X.base (L2.CX X.prog X.w) k f fd ps (spD C 1 F)) (hb : Binds X.K fd ps []) (hK : X.K = C.K) (hr : Room (k + 2) X.A) :
    CallRK X (.builtin "sorted") [Str.ofString "key"] (fun xs zs H Q => ∃ (μ : Mu) (S : HS) (x : D) (v : V) (ds : List D), xs = [v] ∧ zs = [.ref f] ∧ Rep C μ S H ∧ RelD C.K μ H x v ∧ getL S x = some ds ∧ (∀ d ∈ ds, F [d] S = .ok (.str (keyO F S d)) S) ∧
      ∀ μ' H' p ws, G C.K μ H μ' H' → Rep C μ' S H' → H' p = none → RelDs C.K μ' H' (sortF F S ds) ws → Q (.ref p) (upd H' p (.lst ws))) := by
  intro pins s σ H xs zs us ws Q I rx rz h
  obtain ⟨μ, S, x, v, ds, rfl, rfl, R, r, e, hF, hQ⟩ := h
  obtain ⟨t, vs, rfl, ht, rr⟩ := r.list R e
  rw [← hK] at ht
  obtain rfl := Vals.ref1 rx
  obtain ⟨w1, rfl, e1⟩ := vals1 rz
  obtain rfl : w1 = Value.ref f := e1
  obtain ⟨its, rv, hl, hz⟩ := I.list ht
  rw [rv.length] at hz
  show wpAny _ _ (call (.builtin "sorted") [.ref t] [(Str.ofString "key", .ref f)]) _ _ _
  refine PySem.W.sorted_of_sort hl.isList hz (ksk_s1 _ _) (fun _ => ksk_l1 _ _) fun E' => ?_
  rw [ksk_t1]
  have na : H (s.heap.objs.size + 1) = none := I.hok.fresh (Nat.le_succ _)
  have old : ∀ b o, s.heap.get? b = some o → (PySem.W.copyHeap s.heap its).get? b = some o := fun b o q => PySem.W.copyHeap_old q
  have at0 := PySem.W.copyHeap_at s.heap its
  obtain ⟨a, ha⟩ : ∃ a, a = s.heap.objs.size + 1 := ⟨_, rfl⟩
  rw [← ha] at na at0 ⊢
  have lta : a < (PySem.W.copyHeap s.heap its).objs.size := Heap.lt_size at0
  obtain ⟨h1, hh1⟩ : ∃ h1, h1 = PySem.W.copyHeap s.heap its := ⟨_, rfl⟩
  rw [← hh1] at at0 old lta ⊢
  unfold ksk_tree
  refine wpAny_bind (listItems_at at0 rfl ?_)
  refine wpAny_bind (listUpdate_at at0 rfl ?_ (by rw [List.size_toArray]; exact hz) (Nat.zero_le _))
  have sb := Heap.SameBut.update h1 a (Obj.mapSeq fun _ => (#[] : Array Value))
  obtain ⟨e2, at1⟩ : ∃ e2, (h1.update a (Obj.mapSeq fun _ => (#[] : Array Value))).get? a = some (seqObj "list" #[] e2) := ⟨_, get?_update_seq at0 _⟩
  have lt1 : a < (h1.update a (Obj.mapSeq fun _ => (#[] : Array Value))).objs.size := Heap.lt_size at1
  refine wpAny_bind (seqEpoch_at at1 rfl ?_)
  refine wpAny_bind (wpAny_newTuple ?_ (by show its.length ≤ _; exact hz))
  refine wpAny_bind (wpAny_newList ?_ (Nat.zero_le _))
  refine wpAny_holding ?_
  obtain ⟨h2, hh2⟩ : ∃ h2, h2 = (h1.update a (Obj.mapSeq fun _ => (#[] : Array Value))).push { cls := .type "tuple", data := .seq (its.toArray.toList).toArray } := ⟨_, rfl⟩
  have at2 : h2.get? a = some (seqObj "list" #[] e2) := by rw [hh2]; exact Heap.get?_push_of_some _ at1
  have lt2 : a < h2.objs.size := Heap.lt_size at2
  have old2 : ∀ b o, s.heap.get? b = some o → h2.get? b = some o := fun b o q => by
    have hb : b ≠ a := Nat.ne_of_lt (by rw [ha]; exact Nat.lt_succ_of_lt (Heap.lt_size q))
    rw [hh2]; exact Heap.get?_push_of_some _ ((sb.2 b hb).trans (old b o q))
  dsimp only
  rw [← hh2]
  show wpAny _ _ (ksk_rest a (.ref f) false its.toArray e2 (.ref h2.objs.size)) _ _ { s with heap := h2.push (seqObj "list" #[] 0), toks := s.toks }
  have at3 : (h2.push (seqObj "list" #[] 0)).get? a = some (seqObj "list" #[] e2) := Heap.get?_push_of_some _ at2
  have atk : (h2.push (seqObj "list" #[] 0)).get? h2.objs.size = some (seqObj "list" #[] 0) := Heap.get?_push_size _ rfl
  have I1 : Inv X pins σ H { s with heap := h2.push (seqObj "list" #[] 0), toks := s.toks } := I.kept fun b o q => Heap.get?_push_of_some _ (old2 b o q)
  have sle : s.heap.objs.size ≤ h2.objs.size := by omega
  have nk : H h2.objs.size = none := I.hok.fresh sle
  have O : Ours X pins a h2.objs.size := ⟨fun {H'} n => I.fpOk (by rw [ha]; exact Nat.le_succ _) n, fun {H'} n => I.fpOk sle n, Nat.ne_of_gt lt2⟩
  have hr' : Room k X.A.in1.in1 := (Room.in1 (k := k + 1) hr).in1
  refine key_rest FF hb hK hr' rfl O (O.pin I1 at3 atk na nk) R rr rv hz hF fun s' out c H' μ' I' g R' na' ha' eo => ⟨rfl, ?_⟩
  rw [PySem.W.dataLe_str (fun b : Itm => keyO F S b.2)] at eo
  have vals := out_vals eo
  obtain ⟨bs, hbs⟩ : ∃ bs, bs = (vs.zip ds).mergeSort fun b c => decide ((keyO F S b.2).cps.toList ≤ (keyO F S c.2).cps.toList) := ⟨_, rfl⟩
  rw [← hbs] at vals eo
  have rel : RelDs C.K μ' H' (sortF F S ds) (bs.map Prod.fst) := by
    have e3 : sortF F S ds = bs.map Prod.snd := by
      rw [hbs, sort_snd, List.map_snd_zip (Nat.le_of_eq rr.len)]; rfl
    rw [e3]
    refine rels_pairs fun b hb => RelD.mono g _ _ (rels_zip rr b ?_)
    rw [hbs] at hb
    exact (List.mergeSort_perm _ _).mem_iff.mp hb
  have hlen : (bs.map Prod.fst).length ≤ sizeLine := by
    rw [hbs, List.length_map, List.length_mergeSort, List.length_zip, rr.len, Nat.min_self]
    rw [← rv.length] at hz; exact hz
  have I2 : Inv X pins σ (upd H' a (.lst (bs.map Prod.fst))) { s' with heap := s'.heap, toks := s'.toks } := I'.take (h' := s'.heap) (t' := s'.toks) (it := a) (fun b o _ q => q) (O.fa na') ⟨hlen, out, c, vals, ha'⟩
  exact ⟨.ref a, _, I2, rfl, hQ μ' H' a _ g R' na' rel⟩
end
end DL
end
section
/-! DL14: sorted by key as an expression; texts: str, join. -/
namespace DL
open PySem PySem.Spec PyProof.Rows L2
section
variable {C : Ct} {X : Cx} {W : WX} {e o : Expr} {fe fo : SE} {F : FN} {k : Nat} {fn : Str} {p p2 kp pos apos : Pos}
theorem lsortK (I : FnI C X.prog X.mg X.base k fn 1 F) (ok : Ok C X W) (hr : Room (k + 2) X.A) (hg : Gl X "sorted") (hm : X.mg "sorted" = none) (hgf : Gl X fn) (he : LE C X W e fe) (hd : (fn == ("__debug__" : Str)) = false := by decide)
    (h0 : starEach [e] X.env = (false, eval e X.env) :: starEach [] X.env := by rfl) (h1 : backTo pos (starEach [e] X.env) = (false, eval e X.env) :: backTo pos (starEach [] X.env) := by rfl) (h2 : (backTo pos (starEach [e] X.env)).any (·.1) = false := by rfl)
    (h3 : (backToKw pos (keywordEach [⟨some "key", .Name fn p2, kp⟩] X.env)).all (·.1.isSome) = true := by rfl) (h4 : (backToKw pos (keywordEach [⟨some "key", .Name fn p2, kp⟩] X.env)).any (·.1.isNone) = false := by rfl) (h5 : (backToKw pos (keywordEach [⟨some "key", .Name fn p2, kp⟩] X.env)).filterMap (·.1) = [Str.ofString "key"] := by rfl) :
    LE C X W (.Call (.Name "sorted" p) [e] [⟨some "key", .Name fn p2, kp⟩] pos) (bN (acons fe anil) (oSortF F)) := by
  obtain ⟨f, fd, ps, FF, hmf, hk, hb⟩ := I.ex
  rw [← ok.K, ← ok.w] at FF
  rw [← ok.K] at hb
  refine PE.imp (pe_callBK (ks := [Str.ofString "key"]) (cr_keyed FF hb ok.K hr) hg hm (by decide +kernel) (lacons he lanil (hs := h0)) (pk_cons (pe_glob (v := .ref f) hgf hmf rfl hd) pk_nil) (by decide) (by decide) h1 h2 h3 h4 h5) fun σ H Q h => Lift.k h fun sd x H1 μ1 S1 dx R1 rs1 rx h1 => ?_
  show ∃ (μ : Mu) (S : HS) (y : D) (v : V) (ds : List D), x = [v] ∧ [V.ref f] = [.ref f] ∧ _
  unfold oSortF at h1
  split at h1
  · split at h1
    · rename_i y _ ds e0
      split at h1
      · rename_i hall
        obtain ⟨v, rfl, rv⟩ := rx.l1
        refine ⟨μ1, S1, y, v, ds, rfl, rfl, R1, rv, e0, fun d hd => ?_, fun μ' H' p ws g R' hp r => ?_⟩
        · obtain ⟨z, hz⟩ := Option.isSome_iff_exists.mp (hall d hd)
          unfold keyO
          rw [hz]
          exact keyF_some hz
        · exact mkL_good R' r (Good.mono g h1) hp
      · exact h1.elim
    · exact h1.elim
  · exact h1.elim
/-! ### str, join -/
def oStr2 : List D → HS → Res D := fun xs s => match xs with
  | [.str a] => .ok (.str a) s
  | xs => oStr xs s
theorem onStr2 : ON C W (fun xs H Q => (∃ i, xs = [.int i] ∧ i.natAbs.log2 < 1920 ∧ Q (.str (toString i)) H) ∨ ∃ a, xs = [.str a] ∧ Q (.str a) H) oStr2 := by
  intro μ S H xs ds σ Q R r h
  unfold oStr2 at h
  split at h
  · obtain ⟨v, rfl, rv⟩ := r.l1
    cases (show v = .str _ from rv)
    exact .inr ⟨_, rfl, h.ok .refl R rfl⟩
  · exact .inl (onStr μ S H xs _ σ Q R r h)
def strOf : D → Option Str
  | .str a => some a
  | _ => none
theorem strs_of {K : PySem.W.Frag} {μ : Mu} {H : Hp} : ∀ {ds : List D} {vs : List V} {ns : List Str}, RelDs K μ H ds vs → allP strOf ds = some ns → vs = ns.map V.str ∧ ds = ns.map D.str
  | [], vs, ns, r, h => by cases h; have r : vs = [] := r; subst r; exact ⟨rfl, rfl⟩
  | d :: ds, vs, ns, ⟨v, u, e, r1, r2⟩, h => by
    subst e
    rcases allP_some h with ⟨e, _⟩ | ⟨d', r', p, q, e, rfl, h1, h2⟩
    · cases e
    · cases e
      obtain ⟨e1, e2⟩ := strs_of r2 h2
      cases d <;> cases h1
      cases (show v = .str _ from r1)
      exact ⟨by rw [e1]; rfl, by rw [e2]; rfl⟩
def joinE (fo fe : SE) : SE := fun sd s => (fo sd s).bind fun x s1 => match x with
  | .str a => (fe sd s1).bind fun y s2 => match (getL s2 y).bind (allP strOf) with
    | some ys => if (ys.map (·.length)).sum + ys.length * a.length ≤ 16777216 then .ok (.str (Txt.join a ys)) s2 else .bad
    | none => .bad
  | _ => .bad
theorem ljoin (ok : Ok C X W) (ho : LE C X W o fo) (he : LE C X W e fe) (hs : starEach [e] X.env = [(false, eval e X.env)] := by rfl) (hbase : attributeBase o "join" X.env (eval o X.env) = eval o X.env := by rfl) (hline : (apos.endLine == pos.line) = true := by rfl) :
    LE C X W (.Call (.Attribute o "join" apos) [e] [] pos) (joinE fo fe) :=
  PE.imp (pe_join ho he hs hbase hline) fun σ H Q h => by
    obtain ⟨μ, sd, S, R, rs, h⟩ := h
    refine Lift.step _ Stable.true R rs trivial h fun x H1 μ1 S1 dx g1 R1 rs1 _ rx h1 => ?_
    split at h1
    · rename_i a
      cases (show x = .str a from rx)
      refine ⟨⟨a, rfl⟩, ?_⟩
      refine Lift.step _ Stable.true R1 rs1 trivial h1 fun y H2 μ2 S2 dy g2 R2 rs2 _ ry h2 => ?_
      split at h2
      · rename_i ys e0
        split at h2
        · rename_i hz
          cases e1 : getL S2 dy with
          | none => rw [e1] at e0; cases e0
          | some ds =>
            rw [e1] at e0
            obtain ⟨t, vs, rfl, ht, rr⟩ := ry.list R2 e1
            obtain ⟨q1, q2⟩ := strs_of rr e0
            subst q1
            exact ⟨a, t, ys, rfl, rfl, .inl (by rw [ok.K]; exact ht), hz, h2.ok .refl R2 rfl⟩
        · exact h2.elim
      · exact h2.elim
    · exact h1.elim
end
end DL
end
section
/-! DL15: exceptions as values: except .. as e, isinstance of them; isinstance of own instances. -/
namespace DL
open PySem PySem.Spec PyProof.Rows L2
section
variable {X : Cx} {pins : List (Addr × Obj)} {σ : L2.St} {H : Hp} {s : Shared}
/-- an object that lies in the heap untracked is tracked from now on -/
theorem inv_track {a : Addr} {o : Obj} (I : Inv X pins σ H s) (na : H a = none) (ho : s.heap.get? a = some o) (n0 : a ∉ X.ex → X.s_0.heap.get? a = none) (nL : a ≠ X.env.locals) (nC : ∀ x c, X.env.cells.lookup x = some c → c ≠ a) (nP : ∀ p ∈ X.pn ++ pins, p.1 ≠ a) :
    Inv X pins σ (upd H a (extOf a o)) s := by
  have nit : ∀ b u, H b = some u → b ≠ a := fun b u e z => by rw [z, na] at e; cases e
  have up : ∀ b u, H b = some u → upd H a (extOf a o) b = some u := fun b u e => by rw [upd_ne (nit b u e)]; exact e
  have b0 : ∀ b ob, X.s_0.heap.get? b = some ob → b ∉ X.ex → b ≠ a := fun b ob e hx z => by rw [z, n0 (z ▸ hx)] at e; cases e
  refine ⟨I.ok, I.os, I.bare, ⟨I.base.keep, I.base.slot, fun b ob q n hx => ?_, I.base.there, fun b xs e => up _ _ (I.base.tups b xs e), fun b ob u e => up _ _ (I.base.frzs b ob u e), fun b ps e => ?_⟩, I.loc, I.cell, ?_, fun x c e => ?_, fun p hp => ?_, fun b u e => ?_, I.len⟩
  · rw [upd_ne (b0 b ob q hx)]; exact I.base.free b ob q n hx
  · obtain ⟨m, hm⟩ := I.base.tbls b ps e
    exact ⟨m, up _ _ hm⟩
  · rw [upd_ne (Ne.symm nL)]; exact I.free
  · rw [upd_ne (nC x c e)]; exact I.freeC x c e
  · obtain ⟨p1, p2, p3⟩ := I.pin p hp
    exact ⟨p1, by rw [upd_ne (nP p hp)]; exact p2, p3⟩
  · by_cases hb : b = a
    · subst hb
      rw [upd_same] at e
      cases e
      exact ⟨ho, ⟨_, ho⟩, fun h1 h2 p q => q _ p⟩
    · rw [upd_ne hb] at e
      exact (I.hok b u e).stay (fun _ _ _ q => q) (fun c q => up _ _ q) fun c xs q => up _ _ q
theorem inv_into (I : Inv X pins σ H s) (a : Addr) : Inv (X.suite a (X.pn ++ pins)) [] σ H s :=
  ⟨I.ok.suite _ _, I.os, I.bare, I.base, I.loc, I.cell, I.free, I.freeC, (fun p hp => I.pin p (by simpa using hp)), I.hok, I.len⟩
theorem inv_outof {a : Addr} {pn' : List (Addr × Obj)} (I : Inv (X.suite a (X.pn ++ pins)) pn' σ H s) (ok : X.Ok) : Inv X pins σ H s :=
  ⟨ok, I.os, I.bare, I.base, I.loc, I.cell, I.free, I.freeC, (fun p hp => I.pin p (List.mem_append_left _ hp)), I.hok, I.len⟩
end
/-- the clause 'except x as n': the exception is an object like others from then on -/
def wExn (K : PySem.W.Frag) (c : Value) (i : Nat) (ts : Addr → Obj → Value → Option Addr → TS) (Wout : WX) (Z : Ends) : WX := fun cls d σ H => ∃ b, PySem.W.exmOne K cls c = some b ∧
  (b = true → ∀ a oe, H a = none → Zc cls d oe → (∃ vs, oe.data = .fields vs) →
    ts a oe cls d { nx := fun σ' H' => Z.nx (σ'.set i none) H', rt := Z.rt, bk := fun σ' H' => Z.bk (σ'.set i none) H', ct := fun σ' H' => Z.ct (σ'.set i none) H' } (σ.set i (some (.ref a))) (upd H a (extOf a oe))) ∧
  (b = false → Wout cls d σ H)
section
variable {X : Cx} {x n : Str} {c : Value} {i : Nat} {body suite : List Stmt} {b₀ : Stmt} {np pos pos' : Pos} {tb : WX → TS} {ts : Addr → Obj → Value → Option Addr → TS} {Wout : WX}
theorem ps_try_exn (hs : X.stack = X.env :: X.outer) (hf : X.env.frame = some X.env.locals) (hN : X.N.Nodup) (hi : X.N[i]? = some n) (hln : X.env.kindOf n = some .local) (hc : Names X x c) (tk : Takes X Wout)
    (hb : ∀ (W : WX) (pn : List (Addr × Obj)) (xe : Value → Shared → Prop), Takes (X.tr pn xe) W → PassesOwn (model X.prog X.w) X.A X.env xe → PSs (X.tr pn xe) body (tb W))
    (hsu : ∀ (a : Addr) (oe : Obj) (cls : Value) (d : Option Addr) (pn : List (Addr × Obj)), Zc cls d oe → (∃ vs, oe.data = .fields vs) → PSs (X.suite a pn) (b₀ :: suite) (ts a oe cls d)) :
    PS X (.Try body [.ExceptHandler (some (.Name x np)) (some n) (b₀ :: suite) pos'] [] [] pos) (fun Z σ H => tb (wExn X.K c i ts Wout Z) Z σ H) := by
  refine ⟨fun pins s σ H Z I h => ?_⟩
  have okX := I.ok
  have frX : X.A.frames = some (X.env :: X.outer) := by rw [okX.frames, hs]
  have locX : Loc X.env.scope n := .inl hln
  refine wpAny_Try_except (wpAny_mono ((hb (wExn X.K c i ts Wout Z) (X.pn ++ pins) (fun e t1 => wpAny (model X.prog X.w) X.A (noteFrame e X.env) (fun _ t2 => wpAny (model X.prog X.w) X.A (setFlight e none) (fun _ t3 =>
    wpAny (model X.prog X.w) X.A (handleBy e X.env [.ExceptHandler (some (.Name x np)) (some n) (b₀ :: suite) pos']) (SP X pins Z) X.xe t3) X.xe t2) X.xe t1) (fun u s' xx => ?_) PassesOwn.looking).run [] s σ H Z (I.toTry _) h) (fun f s1 hsp => ?_) (fun e s1 he => he))
  · obtain ⟨a, B, sI, pins', σ', H', cls, d, rfl, J', nb, up, sky, na, os, ag, b, hb1, hyes, hno⟩ := xx
    have J : Inv X pins σ' H' sI := J'.ofTry okX
    have skyX : Sky B (X.env :: X.outer) a (Zc cls d) X.env.locals s'.heap := hs ▸ sky
    show wpAny (model X.prog X.w) X.A (noteFrame (.ref a) X.env) _ _ _
    refine Sky.land Zc.steady frX hf skyX fun g3 fl3 up3 => ?_
    have J3 : Inv X pins σ' H' { s' with heap := g3 } := J.landed nb fl3.1 (up.trans up3) os ag
    obtain ⟨oe3, vs3, he3, hz3, hd3⟩ := fl3.there
    have nfr : a ∉ frs (X.env :: X.outer) := fun hm => by
      obtain ⟨_, o', e', hnf⟩ := (fl3.2.2.1).mem hm
      rw [he3] at e'; cases e'
      exact hnf _ hd3
    have aL : a ≠ X.env.locals := fun z => nfr (List.mem_filterMap.mpr ⟨X.env, List.mem_cons_self, by rw [hf, z]⟩)
    have aF : a ∉ X.fs := fun hm => by
      obtain ⟨e, he, q⟩ := List.mem_filterMap.mp hm
      exact nfr (List.mem_filterMap.mpr ⟨e, List.mem_cons_of_mem _ he, q⟩)
    have aI : sI.heap.get? a = none := by
      cases q : sI.heap.get? a with
      | none => rfl
      | some o =>
        have z := nb a o q (by show a ∉ frs X.stack; rw [hs]; exact nfr)
        rw [fl3.2.1] at z; cases z
    have aC : ∀ y c', X.env.cells.lookup y = some c' → c' ≠ a := fun y c' e z => by
      obtain ⟨v, q⟩ := J.cell y c' e
      obtain ⟨o, e2, _⟩ := q
      rw [z, aI] at e2; cases e2
    have aP : ∀ p ∈ X.pn ++ pins, p.1 ≠ a := fun p hp z => by
      have e2 := (J.pin p hp).1
      rw [z, aI] at e2; cases e2
    have a0 : a ∉ X.ex → X.s_0.heap.get? a = none := fun hx => by
      cases q : X.s_0.heap.get? a with
      | none => rfl
      | some o =>
        obtain ⟨o', e2⟩ := J.base.there a o q hx
        rw [aI] at e2; cases e2
    have S3 := J3.suite he3 hd3 na aL aF
    refine wpAny_handleBy_cons (codeAny_handlers_test ?_) (by intro q; cases q)
    have LT : PySem.W.Looks (model X.prog X.w) g3 (typeOf (.ref a)) cls := fun A Q E s k q => wpAny_typeOf_ref (k _ _ he3) (by rw [hz3.1]; exact q)
    have LM := PySem.W.exm_one (M := model X.prog X.w) (J3.kIn) LT hb1
    have tst : ∀ {Q : Value → Shared → Prop} {E : Value → Shared → Prop}, Q c { s' with heap := g3 } → wpAny (model X.prog X.w) (X.A.mark (some (.ref a))) (eval (.Name x np) X.env) Q E { s' with heap := g3 } := fun {Q E} q => by
      obtain ⟨k1, k2, k3 | ⟨k3, k4, k5⟩⟩ := hc
      · exact ld_glob (X := X.suite a ((a, oe3) :: (X.pn ++ pins))) S3 k1 k3 q k2
      · exact ld_blt (X := X.suite a ((a, oe3) :: (X.pn ++ pins))) S3 k1 k3 k4 q k5 k2
    refine tst (LM.here ?_)
    cases b with
    | true =>
      refine codeAny_handlers_suite_as (HandSPX.lands_againZ fl3 fun g4 fl4 up4 => ?_)
      have J4 : Inv X pins σ' H' { s' with heap := g4 } := J.landed nb fl4.1 ((up.trans up3).trans up4) os ag
      obtain ⟨oe4, vs4, he4, hz4, hd4⟩ := fl4.there
      have J5 : Inv X pins σ' (upd H' a (extOf a oe4)) { s' with heap := g4 } := inv_track J4 na he4 a0 aL aC aP
      refine store_ok (X := X.suite a (X.pn ++ pins)) (v := .ref a) (inv_into J5 a) hN hi locX rfl (fun s5 S5 => ?_) (.inr hln)
      refine wpAny_mono ((hsu a oe4 cls d (X.pn ++ pins) hz4 ⟨_, hd4⟩).run [] s5 _ _ _ S5 (hyes rfl a oe4 na hz4 ⟨_, hd4⟩)) (fun f s6 hsp => ?_) (fun _ _ z => False.elim z)
      have leave : ∀ {σ6 : L2.St} {H6 : Hp} {Q : Shared → Prop}, Inv (X.suite a (X.pn ++ pins)) [] σ6 H6 s6 → (∀ s7, Inv X pins (σ6.set i none) H6 s7 → Q s7) →
          wpAny (model X.prog X.w) X.A (do bindName X.env n .none; unbindBehindTheSuite X.env n pos') (fun _ s7 => Q s7) X.xe s6 := fun {σ6 H6 Q} S6 hq => gone_ok (inv_outof S6 okX) hN hi hln hq
      cases f with
      | next => obtain ⟨σ6, H6, S6, q6⟩ := hsp; exact leave S6 fun s7 J7 => ⟨_, _, J7, q6⟩
      | brk => obtain ⟨σ6, H6, S6, q6⟩ := hsp; exact leave S6 fun s7 J7 => ⟨_, _, J7, q6⟩
      | cont => obtain ⟨σ6, H6, S6, q6⟩ := hsp; exact leave S6 fun s7 J7 => ⟨_, _, J7, q6⟩
      | ret u => obtain ⟨v6, σ6, H6, S6, r6, q6⟩ := hsp; exact leave S6 fun s7 J7 => ⟨_, _, _, J7, r6, q6⟩
    | false =>
      show wpAny _ X.A (handleBy (.ref a) X.env []) _ _ _
      refine wpAny_handleBy_nil ?_
      obtain ⟨k1, k2, k3, oe, vs, T, oT, ts', he, hz, hd, h1, hr⟩ := id fl3
      unfold PySem.passOn
      refine wpAny_bind (wpAny_field he hd h1 ?_)
      rw [if_neg (show ¬ ((Value.ref T == Value.none) = true) from by simp)]
      have fin : wpAny (model X.prog X.w) X.A (setFlight (.ref a) X.env.frame) (fun _ s4 => wpAny (model X.prog X.w) X.A (throw (.ref a) : Sem Flow) (SP X pins Z) X.xe s4) X.xe { s' with heap := g3 } := by
        rw [hf]
        refine HandSPX.setFlight_upZ fl3 fun g4 hh4 up4 => wpAny_throw (tk _ _ ⟨a, B, sI, pins, σ', H', cls, d, rfl, J, nb, (up.trans up3).trans up4, .inr (.inr ?_), na, os, ag, hno rfl⟩)
        rw [hs]; exact hh4
      first
        | exact wpAny_bind (wpAny_pure (wpAny_bind fin))
        | exact wpAny_bind fin
  · cases f with
    | next => obtain ⟨σ', H', J', q⟩ := hsp; exact wpAny_execs_nil ⟨σ', H', J'.ofTry okX, q⟩
    | brk => obtain ⟨σ', H', J', q⟩ := hsp; exact ⟨σ', H', J'.ofTry okX, q⟩
    | cont => obtain ⟨σ', H', J', q⟩ := hsp; exact ⟨σ', H', J'.ofTry okX, q⟩
    | ret u => obtain ⟨v, σ', H', J', r, q⟩ := hsp; exact ⟨v, σ', H', J'.ofTry okX, r, q⟩
end
/-! ### over the data -/
def tryAsS (xs : List String) (sub : String → String → Bool) (body : SS) (h : String) (i : Nat) (f : SS) : SS := fun sd s => match body sd s with
  | .exc c sd1 s1 => if c ∈ xs ∧ h ∈ xs then (if sub c h = true then (match f (sd1.set i (some (.ref s1.n))) (s1.new (.exn c)) with
      | .nx sd2 s2 => .nx (sd2.set i none) s2
      | .bk sd2 s2 => .bk (sd2.set i none) s2
      | .ct sd2 s2 => .ct (sd2.set i none) s2
      | .rt d s2 => .rt d s2
      | _ => .bad) else .exc c sd1 s1) else .bad
  | r => r
section
variable {C : Ct} {X : Cx} {W : WX} {x n : Str} {i : Nat} {body suite : List Stmt} {b₀ : Stmt} {np pos pos' : Pos}
theorem stryas {xs : List String} {sub : String → String → Bool} {fb f : SS} {h : String} (o : Ok C X W) (hX : Exs C xs sub) (hs : X.stack = X.env :: X.outer) (hf : X.env.frame = some X.env.locals) (hN : X.N.Nodup) (hi : X.N[i]? = some n) (hln : X.env.kindOf n = some .local) (hc : Names X x (.ref (C.cA h)))
    (hb : ∀ (W : WX) (pn : List (Addr × Obj)) (xe : Value → Shared → Prop), Ok C (X.tr pn xe) W → PassesOwn (model X.prog X.w) X.A X.env xe → LSs C (X.tr pn xe) W body fb)
    (hsu : ∀ (a : Addr) (pn : List (Addr × Obj)), LSs C (X.suite a pn) (fun _ _ _ _ => False) (b₀ :: suite) f) :
    LS C X W (.Try body [.ExceptHandler (some (.Name x np)) (some n) (b₀ :: suite) pos'] [] [] pos) (tryAsS xs sub fb h i f) :=
  PS.imp (ps_try_exn (ts := fun _ _ _ _ => LiftS C (fun _ _ _ _ => False) f) hs hf hN hi hln hc o.tk (fun W pn xe tk hp => hb W pn xe ⟨o.K, o.w, tk, o.calm⟩ hp) (fun a oe cls d pn _ _ => hsu a pn)) fun Z σ H ⟨μ, sd, S, R, rs, h⟩ => by
  refine ⟨μ, sd, S, R, rs, ?_⟩
  unfold tryAsS at h
  cases q : fb sd S with
  | exc c sd1 s1 =>
    rw [q] at h
    show ∀ μ' H' σ', G C.K μ H μ' H' → Rep C μ' s1 H' → RelS C.K μ' H' sd1 σ' → _
    intro μ1 H1 σ1 g1 R1 rs1
    dsimp only at h
    split at h
    · rename_i hcx
      refine ⟨_, by rw [o.K]; exact hX.ok c hcx.1 _ hcx.2, fun e a oe na hz hd => ?_, fun e => ?_⟩
      · rw [if_pos e] at h
        have g2 := G.newM (u := extOf a oe) R1 na
        have R2 := R1.newM (u := extOf a oe) (o := .exn c) na ⟨oe, upd_same, hz, hd⟩
        refine ⟨_, _, _, R2, (rs1.mono g2).set (d := .ref s1.n) (v := .ref a) ⟨a, rfl, muNew_self⟩ i, ?_⟩
        have h := GoodS.mono (g1.trans g2) h
        revert h
        cases f (sd1.set i (some (.ref s1.n))) (s1.new (.exn c)) with
        | nx sd2 s2 => exact fun h m k b g R r => h m k _ g R (r.del i)
        | bk sd2 s2 => exact fun h m k b g R r => h m k _ g R (r.del i)
        | ct sd2 s2 => exact fun h m k b g R r => h m k _ g R (r.del i)
        | rt d s2 => exact fun h => h
        | exc _ _ _ => exact fun h => h.elim
        | bad => exact fun h => h.elim
      · rw [if_neg (by rw [e]; decide)] at h
        exact h _ _ _ g1 R1 rs1
    · exact h.elim
  | nx _ _ => rw [q] at h; exact h
  | rt _ _ => rw [q] at h; exact h
  | bk _ _ => rw [q] at h; exact h
  | ct _ _ => rw [q] at h; exact h
  | bad => rw [q] at h; exact h
end

/-! ### isinstance of exceptions and of own instances -/
structure Isx (C : Ct) (xs : List String) (sub : String → String → Bool) : Prop where
  ex : ∀ c ∈ xs, ExcC C.K (C.cA c)
  ok : ∀ c ∈ xs, ∀ h ∈ xs, PySem.W.kitOne C.K (.ref (C.cA c)) (.ref (C.cA h)) = some (sub c h)
  ve : ∀ c ∈ xs, PySem.W.kitOne C.K (.ref (C.cA c)) (.type "ValueError") = some true
def exnAt (xs : List String) (s : HS) : D → Option String
  | .ref n => match s.h n with
    | some (.exn c) => if c ∈ xs then some c else none
    | _ => none
  | _ => none
def oIsX (xs : List String) (sub : String → String → Bool) (hs : List String) : D → HS → Res D := fun x s => match exnAt xs s x with
  | some c => if ∀ h ∈ hs, h ∈ xs then .ok (.bl (hs.any (sub c))) s else .bad
  | none => .bad
def oIsV (xs : List String) : D → HS → Res D := fun x s => match exnAt xs s x with
  | some _ => .ok (.bl true) s
  | none => .bad
/-- isinstance(e, c), e a tracked exception -/
def rIsX (K : PySem.W.Frag) : List V → Hp → VK → Prop := fun xs H Q => ∃ (a D : Addr) (oe : Obj) (c : V) (u : Value) (b : Bool), xs = [.ref a, c] ∧ ExcC K D ∧ H a = some (extOf a oe) ∧ Zc (.ref D) none oe ∧ (∃ vs, oe.data = .fields vs) ∧ ClsV c u ∧ PySem.W.kitOne K (.ref D) u = some b ∧ Q (.bl b) H
def rIsXT (K : PySem.W.Frag) : List V → Hp → VK → Prop := fun xs H Q => ∃ (a D tp : Addr) (oe : Obj) (cs : List V) (us : List Value) (b : Bool), xs = [.ref a, .ref tp] ∧ ExcC K D ∧ H a = some (extOf a oe) ∧ Zc (.ref D) none oe ∧ (∃ vs, oe.data = .fields vs) ∧
  H tp = some (.tup cs) ∧ Paired ClsV cs us ∧ PySem.W.kitAny K (.ref D) us = some b ∧ Q (.bl b) H
section
variable {C : Ct} {X : Cx} {W : WX} {e eT : Expr} {f : SE} {pos p : Pos}
theorem inst_at {pins : List (Addr × Obj)} {σ : L2.St} {H : Hp} {s : Shared} {a D : Addr} {oe : Obj} (I : Inv X pins σ H s) (hH : H a = some (extOf a oe)) (hz : Zc (.ref D) none oe) (hd : ∃ vs, oe.data = .fields vs) : PySem.W.InstAt s.heap a oe D none := by
  have hg : s.heap.get? a = some oe := (I.hok a _ hH).1
  obtain ⟨vs, hv⟩ := hd
  obtain ⟨oc, od, oda, osl⟩ := oe
  obtain ⟨h1, h2⟩ := hz
  dsimp only at h1 h2 hv
  subst h1 h2 hv
  exact ⟨hg, rfl, rfl, trivial⟩
theorem kit_exc {D : Addr} {a : Addr} {oe : Obj} (E : ExcC X.K D) : PySem.W.KitX X.K (.ref a) (.ref D) (fun h => PySem.W.InstAt h a oe D none) := PySem.W.handS_kitx_exc E.hg E.hk E.hs E.hd E.ha E.hn E.ht E.hm
theorem call_isX : CallR X (.builtin "isinstance") (rIsX X.K) := by
  intro pins s σ H xs us Q I r h
  obtain ⟨a, D, oe, c, u, b, rfl, E, hH, hz, hd, k, q1, q⟩ := h
  obtain ⟨u1, u2, rfl, r1, r2⟩ := vals2 r
  have e2 := k.eq r2
  subst e2
  cases (show u1 = Value.ref a from r1)
  exact PySem.W.kia_one (kit_exc E) I.kIn (inst_at I hH hz hd) q1 (fun z => nomatch z) fun tk => ⟨.bl b, H, I.tok tk, rfl, q⟩
theorem call_isXT : CallR X (.builtin "isinstance") (rIsXT X.K) := by
  intro pins s σ H xs us Q I r h
  obtain ⟨a, D, tp, oe, cs, ws, b, rfl, E, hH, hz, hd, hT, k, q1, q⟩ := h
  obtain ⟨u1, u2, rfl, r1, r2⟩ := vals2 r
  cases (show u1 = Value.ref a from r1)
  cases (show u2 = Value.ref tp from r2)
  obtain ⟨_, its, rv, ob, w1, w2, n, w3⟩ := (show ObjOk X.prog X.w H s.heap tp (.tup cs) from I.hok tp _ hT)
  have e3 := ClsV.all k rv
  subst e3
  obtain ⟨oc, od, dt, sl⟩ := ob
  simp only at w2 w3
  subst w2 w3
  exact PySem.W.kia_tup (kit_exc E) I.kIn (inst_at I hH hz hd) w1 q1 (fun z => nomatch z) fun tk => ⟨.bl b, H, I.tok tk, rfl, q⟩
theorem exn_rel {xs : List String} {μ : Mu} {S : HS} {H : Hp} {d : D} {v : V} {c : String} (R : Rep C μ S H) (r : RelD C.K μ H d v) (h : exnAt xs S d = some c) : c ∈ xs ∧ ∃ a oe, v = .ref a ∧ H a = some (extOf a oe) ∧ Zc (.ref (C.cA c)) none oe ∧ ∃ vs, oe.data = .fields vs := by
  unfold exnAt at h
  split at h
  · rename_i n
    obtain ⟨a, rfl, hm⟩ := r
    obtain ⟨ob, e1, q⟩ := R.obj n a hm
    split at h
    · rename_i c' e2
      split at h
      · rename_i hc
        cases h
        rw [e1] at e2; cases e2
        obtain ⟨oe, q1, q2, q3⟩ := q
        exact ⟨hc, a, oe, rfl, q1, q2, q3⟩
      · cases h
    · cases h
  · cases h
/-- isinstance(e, C), C one of the text's own refusals -/
theorem lisx {xs : List String} {sub : String → String → Bool} (c : String) (hX : Isx C xs sub) (hK : X.K = C.K) (hg : Gl X "isinstance") (hm : X.mg "isinstance" = none) (ha : LE C X W e f) (hT : PE X eT (tC (.ref (C.cA c))))
    (he : starEach [e, eT] X.env = (false, eval e X.env) :: starEach [eT] X.env := by rfl) (he2 : starEach [eT] X.env = (false, eval eT X.env) :: starEach [] X.env := by rfl) (hpl : (backTo pos (starEach [eT] X.env)).any (·.1) = false := by rfl) : LE C X W (.Call (.Name "isinstance" p) [e, eT] [] pos) (b1 f (oIsX xs sub [c])) :=
  PE.imp (pe_callB call_isX hg hm (by decide +kernel) (pa_cons ha (pa_cons hT pa_nil he2) he) (by decide) (by decide) he hpl) fun σ H Q h => Lift.k h fun sd x H1 μ1 S1 dx R1 rs1 rx h1 => by
    unfold oIsX at h1
    split at h1
    · rename_i z e0
      obtain ⟨hz, a, oe, rfl, q1, q2, q3⟩ := exn_rel R1 rx e0
      split at h1
      · rename_i hc
        refine ⟨a, C.cA z, oe, .ref (C.cA c), .ref (C.cA c), sub z c, rfl, by rw [hK]; exact hX.ex z hz, q1, q2, q3, .own _, by rw [hK]; exact hX.ok z hz c (hc c (by simp)), ?_⟩
        have e : ([c].any (sub z)) = sub z c := by simp
        rw [e] at h1
        exact h1.ok .refl R1 rfl
      · exact h1.elim
    · exact h1.elim
theorem lisv {xs : List String} {sub : String → String → Bool} (hX : Isx C xs sub) (hK : X.K = C.K) (hg : Gl X "isinstance") (hm : X.mg "isinstance" = none) (ha : LE C X W e f) (hT : PE X eT (tC (.ty "ValueError")))
    (he : starEach [e, eT] X.env = (false, eval e X.env) :: starEach [eT] X.env := by rfl) (he2 : starEach [eT] X.env = (false, eval eT X.env) :: starEach [] X.env := by rfl) (hpl : (backTo pos (starEach [eT] X.env)).any (·.1) = false := by rfl) : LE C X W (.Call (.Name "isinstance" p) [e, eT] [] pos) (b1 f (oIsV xs)) :=
  PE.imp (pe_callB call_isX hg hm (by decide +kernel) (pa_cons ha (pa_cons hT pa_nil he2) he) (by decide) (by decide) he hpl) fun σ H Q h => Lift.k h fun sd x H1 μ1 S1 dx R1 rs1 rx h1 => by
    unfold oIsV at h1
    split at h1
    · rename_i z e0
      obtain ⟨hz, a, oe, rfl, q1, q2, q3⟩ := exn_rel R1 rx e0
      exact ⟨a, C.cA z, oe, .ty "ValueError", .type "ValueError", true, rfl, by rw [hK]; exact hX.ex z hz, q1, q2, q3, .ty _, by rw [hK]; exact hX.ve z hz, h1.ok .refl R1 rfl⟩
    · exact h1.elim
/-- the written tuple of some own classes -/
def tCs (C : Ct) (hs : List String) : TA := fun _ H Q => Q (hs.map fun h => .ref (C.cA h)) H
theorem pcs_nil : PA X [] (tCs C []) := pa_nil
theorem pcs_cons {h : String} {hs : List String} {es : List Expr} (ha : PE X e (tC (.ref (C.cA h)))) (hr : PA X es (tCs C hs)) (hst : starEach (e :: es) X.env = (false, eval e X.env) :: starEach es X.env := by rfl) : PA X (e :: es) (tCs C (h :: hs)) := pa_cons ha hr hst
theorem paired_own (C : Ct) : ∀ hs : List String, Paired ClsV (hs.map fun h => V.ref (C.cA h)) (hs.map fun h => Value.ref (C.cA h))
  | [] => .nil
  | h :: hs => .cons (.own _) (paired_own C hs)
theorem kit_all {xs : List String} {sub : String → String → Bool} (hX : Isx C xs sub) {z : String} (hz : z ∈ xs) : ∀ hs : List String, (∀ h ∈ hs, h ∈ xs) → PySem.W.kitAny C.K (.ref (C.cA z)) (hs.map fun h => Value.ref (C.cA h)) = some (hs.any (sub z))
  | [], _ => rfl
  | h :: hs, q => kitAny_cons (hX.ok z hz h (q h List.mem_cons_self)) (fun hb => by rw [List.any_cons, hb, Bool.false_or]; exact kit_all hX hz hs fun x hx => q x (List.mem_cons_of_mem _ hx)) fun hb => by rw [List.any_cons, hb, Bool.true_or]
theorem lisxt {xs : List String} {sub : String → String → Bool} {x1 : Nat} {p2 : Pos} {es : List Expr} (hs : List String) (hX : Isx C xs sub) (hK : X.K = C.K) (hg : Gl X "isinstance") (hm : X.mg "isinstance" = none) (ha : LE C X W e f) (hT : PA X es (tCs C hs)) (hl : hs.length ≤ sizeLine := by decide)
    (he : starEach [e, .Tuple es x1 p2] X.env = (false, eval e X.env) :: starEach [.Tuple es x1 p2] X.env := by rfl) (he2 : starEach [.Tuple es x1 p2] X.env = (false, eval (.Tuple es x1 p2) X.env) :: starEach [] X.env := by rfl) (hpl : (backTo pos (starEach [.Tuple es x1 p2] X.env)).any (·.1) = false := by rfl) :
    LE C X W (.Call (.Name "isinstance" p) [e, .Tuple es x1 p2] [] pos) (b1 f (oIsX xs sub hs)) :=
  PE.imp (pe_callB call_isXT hg hm (by decide +kernel) (pa_cons ha (pa_cons (pe_tup hT) pa_nil he2) he) (by decide) (by decide) he hpl) fun σ H Q h => Lift.k h fun sd x H1 μ1 S1 dx R1 rs1 rx h1 => by
    unfold oIsX at h1
    split at h1
    · rename_i z e0
      obtain ⟨hz, a, oe, rfl, q1, q2, q3⟩ := exn_rel R1 rx e0
      split at h1
      · rename_i hc
        refine ⟨by rw [List.length_map]; exact hl, fun tp htp => ?_⟩
        have g := G.new (u := .tup (hs.map fun h => V.ref (C.cA h))) R1 htp
        have R2 := R1.new (u := .tup (hs.map fun h => V.ref (C.cA h))) htp
        exact ⟨a, C.cA z, tp, oe, _, _, hs.any (sub z), rfl, by rw [hK]; exact hX.ex z hz, by rw [upd_ne (ne_of_none q1 htp)]; exact q1, q2, q3, upd_same, paired_own C hs, by rw [hK]; exact kit_all hX hz hs hc, h1.ok g R2 rfl⟩
      · exact h1.elim
    · exact h1.elim
/-- isinstance(x, C), x an instance of the text's class C -/
def oIsC (c : String) : D → HS → Res D
  | .ref n, s => match s.h n with
    | some (.ins c' _) => if c' = c then .ok (.bl true) s else .bad
    | _ => .bad
  | _, _ => .bad
theorem lisc (c : String) (o : C8.InsC C.K (C.cA c)) (hK : X.K = C.K) (hg : Gl X "isinstance") (hm : X.mg "isinstance" = none) (ha : LE C X W e f) (hT : PE X eT (tC (.ref (C.cA c))))
    (he : starEach [e, eT] X.env = (false, eval e X.env) :: starEach [eT] X.env := by rfl) (he2 : starEach [eT] X.env = (false, eval eT X.env) :: starEach [] X.env := by rfl) (hpl : (backTo pos (starEach [eT] X.env)).any (·.1) = false := by rfl) : LE C X W (.Call (.Name "isinstance" p) [e, eT] [] pos) (b1 f (oIsC c)) :=
  PE.imp (pe_callB (C8.call_isC (by rw [hK]; exact o)) hg hm (by decide +kernel) (pa_cons ha (pa_cons hT pa_nil he2) he) (by decide) (by decide) he hpl) fun σ H Q h => Lift.k h fun sd x H1 μ1 S1 dx R1 rs1 rx h1 => by
    unfold oIsC at h1
    split at h1
    · rename_i n
      obtain ⟨a, rfl, hm'⟩ := rx
      obtain ⟨ob, e1, q⟩ := R1.obj n a hm'
      split at h1
      · rename_i c' fs e2
        rw [e1] at e2; cases e2
        split at h1
        · rename_i hc
          subst hc
          obtain ⟨di, vs, q1, q2⟩ := q
          exact ⟨a, di, vs, rfl, q1, h1.ok .refl R1 rfl⟩
        · exact h1.elim
      · exact h1.elim
    · exact h1.elim
end
end DL
end
section
/-! DL16: sorted of pairs whose first parts are texts, all unlike. -/
namespace DL
open PySem PySem.Spec PyProof.Rows L2
open PySem.W (EachIs SortsAt KatTups KatLex keyToks dataLt sortVals)
/-- the text of a pair -/
def textP : D → Option Str
  | .tup [.str x, .str _] => some x
  | .tup [.str x, .tup _] => some x
  | _ => none
def textO (d : D) : Str := (textP d).getD Str.empty
def sortP (ds : List D) : List D := ds.mergeSort fun a b => decide ((textO a).cps.toList ≤ (textO b).cps.toList)
def oSortP (al : Bool) (xs : List D) (s : HS) : Res D := match xs with
  | [x] => match getL s x with
    | some ds => if (∀ d ∈ ds, (textP d).isSome = true) ∧ (ds.map textO).Nodup then mkL al (sortP ds) s else .bad
    | none => .bad
  | _ => .bad
section
variable {C : Ct} {X : Cx} {prog : Program} {w : World} {A : Around} {E : Value → Shared → Prop} {s : Shared}
theorem eqB_ref {a : Addr} {Q : Bool → Shared → Prop} (h : Q true s) : wpAny (model prog w) A (eqBool (.ref a) (.ref a)) Q E s := by
  unfold eqBool
  refine wpAny_holding ?_
  rw [if_pos (by simp)]
  exact wpAny_bind (wpAny_rule (wpAny_pure h))
/-- an item at a value: a tuple of a text and a text or a tuple -/
def PairAt (h : Heap) (v : Value) (x : Str) : Prop := ∃ (a : Addr) (o : Obj) (n : Nat) (t : Tok) (c : Value), v = .ref a ∧ h.get? a = some o ∧ o.cls = .type "tuple" ∧ o.data = .seq #[.str x t, c] n ∧ ((∃ z u, c = .str z u) ∨ ∃ b, c = .ref b)
theorem PairAt.keep {h h' : Heap} {v : Value} {x : Str} (p : PairAt h v x) (k : ∀ b o, h.get? b = some o → o.cls = .type "tuple" → h'.get? b = some o) : PairAt h' v x := by
  obtain ⟨a, o, n, t, c, e, ho, hc, hd, hz⟩ := p
  exact ⟨a, o, n, t, c, e, k a o ho hc, hc, hd, hz⟩
theorem PairAt.one {h : Heap} {v : Value} {x y : Str} (p : PairAt h v x) (q : PairAt h v y) : x = y := by
  obtain ⟨a, o, n, t, c, rfl, ho, hc, hd, hz⟩ := p
  obtain ⟨a', o', n', t', c', e, ho', hc', hd', hz'⟩ := q
  cases e
  rw [ho] at ho'; cases ho'
  rw [hd] at hd'; cases hd'
  rfl
/-- two such items compared -/
theorem pair_lt {v u : Value} {x y : Str} (p : PairAt s.heap v x) (q : PairAt s.heap u y) (hj : x = y → v = u) (hu : A.units < cLine) {Q : Bool → Shared → Prop} (h : Q (dataLt (.str x) (.str y)) s) : wpAny (model prog w) A (keyLt' (tuples' true) v u) Q E s := by
  obtain ⟨a, o, n, t, c, rfl, ho, hc, hd, hz⟩ := p
  obtain ⟨b, o', n', t', c', rfl, ho', hc', hd', hz'⟩ := q
  refine wpAny_mono (E := fun _ _ => False) (PySem.W.kat_lt ho hd ho' hd' (PySem.W.kat_cons (wpAny_eqBool_str ?_))) (fun _ _ z => z) fun _ _ z => z.elim
  by_cases e : x = y
  · subst e
    cases hj rfl
    rw [ho] at ho'; cases ho'
    rw [hd] at hd'; cases hd'
    rw [decide_eq_true rfl]
    have fin : Q false s := by
      have : dataLt (.str x) (.str x) = false := PyProof.Rows.lex_irrefl _
      rw [this] at h; exact h
    refine PySem.W.kat_yes ?_
    rcases hz with ⟨z, m, rfl⟩ | ⟨m, rfl⟩
    · exact PySem.W.kat_cons (wpAny_eqBool_str (by rw [decide_eq_true rfl]; exact PySem.W.kat_yes (PySem.W.kat_nil fin)))
    · exact PySem.W.kat_cons (eqB_ref (PySem.W.kat_yes (PySem.W.kat_nil fin)))
  · rw [decide_eq_false e]
    exact PySem.W.kat_no (PySem.W.oneLt_alike (da := .str x) (db := .str y) (fun _ _ z => nomatch z) (.str x t) (.str y t') rfl (fun z => nomatch z) (by show A.units + 0 < cLine; omega) h)
open Classical in
/-- the kind of keys of such items -/
noncomputable def pairKind (L : List (Value × Str)) : PyProof.Rows.KeyKind where
  toKeyOrd := PyProof.Rows.listOrd PyProof.Rows.itemOrd
  keyOf v := if q : ∃ x, (v, x) ∈ L then some (keyToks (.str q.choose)) else none
  dflt := ([] : List (Int ⊕ List Nat))
theorem pairKind_some {L : List (Value × Str)} (h1 : ∀ v x y, (v, x) ∈ L → (v, y) ∈ L → x = y) {v : Value} {x : Str} (h : (v, x) ∈ L) : (pairKind L).keyOf v = some (keyToks (.str x)) := by
  classical
  have q : ∃ x, (v, x) ∈ L := ⟨x, h⟩
  show (if q : ∃ x, (v, x) ∈ L then some (keyToks (.str q.choose)) else none) = _
  rw [dif_pos q, h1 v _ _ q.choose_spec h]
theorem pairKind_inv {L : List (Value × Str)} {v : Value} {k : List (Int ⊕ List Nat)} (h : (pairKind L).keyOf v = some k) : ∃ x, (v, x) ∈ L ∧ k = keyToks (.str x) := by
  classical
  have h' : (if q : ∃ x, (v, x) ∈ L then some (keyToks (.str q.choose)) else none) = some k := h
  split at h'
  · rename_i q
    exact ⟨_, q.choose_spec, (Option.some.inj h').symm⟩
  · cases h'
theorem pairs_kat {h : Heap} : ∀ {L : List (Value × Str)}, (∀ p ∈ L, PairAt h p.1 p.2) → ∃ fs, KatTups h (L.map (·.1)) fs ∧ fs.length = L.length ∧ ∀ f ∈ fs, ∃ x t, f = Value.str x t
  | [], _ => ⟨[], .nil, rfl, fun _ z => (nomatch z)⟩
  | p :: L, hp => by
    obtain ⟨fs, h1, h2, h3⟩ := pairs_kat fun q hq => hp q (List.mem_cons_of_mem _ hq)
    obtain ⟨a, o, n, t, c, e, ho, hc, hd, hz⟩ := hp p List.mem_cons_self
    refine ⟨.str p.2 t :: fs, ?_, by simp [h2], fun f hf => ?_⟩
    · rw [List.map_cons, e]
      exact .cons ho hc hd rfl h1
    · rcases List.mem_cons.mp hf with rfl | hf
      · exact ⟨_, _, rfl⟩
      · exact h3 f hf
theorem pairs_sorts {L : List (Value × Str)} (hp : ∀ p ∈ L, PairAt s.heap p.1 p.2) (hj : ∀ v u x, (v, x) ∈ L → (u, x) ∈ L → v = u) (hu : A.units < cLine) : SortsAt prog w A s (pairKind L) (L.map (·.1)) := by
  have h1 : ∀ v x y, (v, x) ∈ L → (v, y) ∈ L → x = y := fun v x y h k => (hp _ h).one (hp _ k)
  refine ⟨fun v hv => ?_, tuples' true, ?_, fun h2 E Q hq => ?_⟩
  · obtain ⟨p, hp', rfl⟩ := List.mem_map.mp hv
    exact ⟨_, pairKind_some h1 hp'⟩
  · intro E x y a b Q ha hb hq
    obtain ⟨tx, mx, rfl⟩ := pairKind_inv ha
    obtain ⟨ty, my, rfl⟩ := pairKind_inv hb
    exact pair_lt (hp _ mx) (hp _ my) (fun e => by subst e; exact hj _ _ _ mx my) hu hq
  · obtain ⟨fs, k1, k2, k3⟩ := pairs_kat hp
    refine PySem.W.kat_kind (T := .type "str") k1 (by rw [k2]; rw [List.length_map] at h2; omega) (fun f hf => ?_) (beq_self_eq_true _) ?_
    · obtain ⟨x, t, rfl⟩ := k3 f hf
      exact PySem.W.Looks.of_pure rfl
    · have e : (Value.type "str" != Value.type "tuple") = true := by first | decide +kernel | rfl | decide
      rw [e]; exact hq
end
section
variable {C : Ct} {X : Cx} {W : WX}
theorem textP_rel {K : PySem.W.Frag} {μ : Mu} {H : Hp} {d : D} {v : V} {x : Str} (h : textP d = some x) (r : RelD K μ H d v) : ∃ a c, v = .ref a ∧ SqT K H a [.str x, c] ∧ ((∃ z, c = .str z) ∨ ∃ b, c = .ref b) := by
  unfold textP at h
  split at h
  · cases h
    obtain ⟨a, vs, rfl, t, u, q, rfl, r1, u2, q2, rfl, r2, r3⟩ := r
    cases (show u = .str x from r1)
    cases (show u2 = .str _ from r2)
    have r3 : q2 = [] := r3
    subst r3
    exact ⟨a, _, rfl, t, .inl ⟨_, rfl⟩⟩
  · cases h
    obtain ⟨a, vs, rfl, t, u, q, rfl, r1, u2, q2, rfl, ⟨b, ws, rfl, _⟩, r3⟩ := r
    cases (show u = .str x from r1)
    have r3 : q2 = [] := r3
    subst r3
    exact ⟨a, _, rfl, t, .inr ⟨b, rfl⟩⟩
  · cases h
theorem pairs_at {pins : List (Addr × Obj)} {σ : L2.St} {H : Hp} {s : Shared} {μ : Mu} (I : Inv X pins σ H s) (hK : X.K = C.K) : ∀ {ds : List D} {vs : List V} {us : List Value}, (∀ d ∈ ds, (textP d).isSome = true) → RelDs C.K μ H ds vs → Vals vs us →
    ∀ p ∈ us.zip (ds.map textO), PairAt s.heap p.1 p.2
  | [], _, _, _, _, _, p, hp => by simp at hp
  | d :: ds, vs, us, ht, ⟨v, r, e, r1, r2⟩, hv, p, hp => by
    subst e
    cases hv with
    | cons rv rr =>
      rw [List.map_cons, List.zip_cons_cons] at hp
      rcases List.mem_cons.mp hp with rfl | hp
      · obtain ⟨x, ex⟩ := Option.isSome_iff_exists.mp (ht d List.mem_cons_self)
        obtain ⟨a, c, rfl, t, hc⟩ := textP_rel ex r1
        rw [← hK] at t
        obtain ⟨its, rt, ⟨o, g1, g2, n, g3⟩, _⟩ := I.tuple t
        obtain ⟨u1, u2, rfl, q1, q2⟩ := vals2 rt
        obtain ⟨tk, rfl⟩ := (show ∃ t, u1 = Value.str x t from q1)
        have e2 : textO d = x := by unfold textO; rw [ex]; rfl
        refine ⟨a, o, n, tk, u2, rv, g1, g2, by rw [e2]; exact g3, ?_⟩
        rcases hc with ⟨z, rfl⟩ | ⟨b, rfl⟩
        · obtain ⟨m, rfl⟩ := (show ∃ t, u2 = Value.str z t from q2)
          exact .inl ⟨z, m, rfl⟩
        · exact .inr ⟨b, q2⟩
      · exact pairs_at I hK (fun x hx => ht x (List.mem_cons_of_mem _ hx)) r2 rr p hp
theorem zip_inj {α β : Type} : ∀ {us : List α} {xs : List β}, xs.Nodup → ∀ v u x, (v, x) ∈ us.zip xs → (u, x) ∈ us.zip xs → v = u
  | [], _, _, v, u, x, h, _ => by simp at h
  | _ :: _, [], _, v, u, x, h, _ => by simp at h
  | a :: us, b :: xs, nd, v, u, x, h, k => by
    rw [List.zip_cons_cons] at h k
    obtain ⟨n1, n2⟩ := List.nodup_cons.mp nd
    rcases List.mem_cons.mp h with e | h
    · cases e
      rcases List.mem_cons.mp k with e | k
      · cases e; rfl
      · exact absurd (List.of_mem_zip k).2 n1
    · rcases List.mem_cons.mp k with e | k
      · cases e
        exact absurd (List.of_mem_zip h).2 n1
      · exact zip_inj n2 v u x h k
theorem cr_pairs (hK : X.K = C.K) (hr : Room 2 X.A) : CallR X (.builtin "sorted") (fun xs H Q => ∃ (μ : Mu) (S : HS) (x : D) (v : V) (ds : List D), xs = [v] ∧ Rep C μ S H ∧ RelD C.K μ H x v ∧ getL S x = some ds ∧ (∀ d ∈ ds, (textP d).isSome = true) ∧ (ds.map textO).Nodup ∧
    ∀ p ws, H p = none → RelDs C.K μ H (sortP ds) ws → Q (.ref p) (upd H p (.lst ws))) := by
  intro pins s σ H xs us Q I rx h
  obtain ⟨μ, S, x, v, ds, rfl, R, r, e, ht, nd, hQ⟩ := h
  obtain ⟨t, vs, rfl, hl0, rr⟩ := r.list R e
  rw [← hK] at hl0
  obtain rfl := Vals.ref1 rx
  obtain ⟨its, rv, hl, hz⟩ := I.list hl0
  rw [rv.length] at hz
  have hlen : vs.length = ds.length := rr.len.symm
  have l2 := rv.length
  obtain ⟨L, hL⟩ : ∃ L, L = its.zip (ds.map textO) := ⟨_, rfl⟩
  have hp := pairs_at I hK ht rr rv
  have hj := zip_inj (us := its) nd
  rw [← hL] at hp hj
  have eL : L.map (·.1) = its := by rw [hL]; exact List.map_fst_zip (by rw [List.length_map]; omega)
  have sz : ∀ b o, s.heap.get? b = some o → b ≠ s.heap.objs.size + 1 := fun b o e => Nat.ne_of_lt (Nat.lt_succ_of_lt (Heap.lt_size e))
  have hr2 := (Room.in1 (k := 1) hr).in1
  have SA := pairs_sorts (prog := X.prog) (w := X.w) (A := X.A.in1.in1) (s := { s with heap := PySem.W.sortingHeap (PySem.W.copyHeap s.heap its) (s.heap.objs.size + 1) its }) (L := L)
    (fun p hp' => (hp p hp').keep fun b o e _ => PySem.W.sortingHeap_old (sz b o e) (PySem.W.copyHeap_old e)) hj (by have := hr2.un; omega)
  rw [eL] at SA
  refine PySem.W.sorted_vals hl.isList SA hz ?_
  have h1 : ∀ v x y, (v, x) ∈ L → (v, y) ∈ L → x = y := fun v x y h k => (hp _ h).one (hp _ k)
  have hk : EachIs (fun v (b : Itm) => (pairKind L).keyOf v = some (keyToks (.str (textO b.2)))) its (vs.zip ds) := by
    have go : ∀ {us : List Value} {ws : List V} {es : List D}, us.length = ws.length → ws.length = es.length → (∀ p ∈ us.zip (es.map textO), p ∈ L) → EachIs (fun v (b : Itm) => (pairKind L).keyOf v = some (keyToks (.str (textO b.2)))) us (ws.zip es) := by
      intro us
      induction us with
      | nil => intro ws es e1 e2 _; cases ws with
        | nil => exact .nil
        | cons _ _ => cases e1
      | cons u us ih => intro ws es e1 e2 hm; cases ws with
        | nil => cases e1
        | cons w ws => cases es with
          | nil => cases e2
          | cons d es =>
            refine .cons (pairKind_some h1 (hm _ (by simp))) (ih (by simpa using e1) (by simpa using e2) fun p hp => hm p ?_)
            rw [List.map_cons, List.zip_cons_cons]
            exact List.mem_cons_of_mem _ hp
    exact go l2.symm hlen fun p hp => by rw [hL]; exact hp
  have eo := PySem.W.sortVals_each (κ := pairKind L) (rev := false) (k := fun b : Itm => keyToks (.str (textO b.2))) (items_each rv hlen) hk
  have ek : (PySem.W.sortLe (pairKind L).toKeyOrd false fun b : Itm => keyToks (.str (textO b.2))) = fun a b => decide ((textO a.2).cps.toList ≤ (textO b.2).cps.toList) := PySem.W.dataLe_str fun b : Itm => textO b.2
  rw [ek] at eo
  have vals := out_vals eo
  obtain ⟨bs, hbs⟩ : ∃ bs, bs = (vs.zip ds).mergeSort fun a b => decide ((textO a.2).cps.toList ≤ (textO b.2).cps.toList) := ⟨_, rfl⟩
  rw [← hbs] at vals
  have rel : RelDs C.K μ H (sortP ds) (bs.map Prod.fst) := by
    have e3 : sortP ds = bs.map Prod.snd := by
      rw [hbs, sort_snd textO, List.map_snd_zip (Nat.le_of_eq rr.len)]; rfl
    rw [e3]
    refine rels_pairs fun b hb => rels_zip rr b ?_
    rw [hbs] at hb
    exact (List.mergeSort_perm _ _).mem_iff.mp hb
  have hlen2 : (bs.map Prod.fst).length ≤ sizeLine := by
    rw [hbs, List.length_map, List.length_mergeSort, List.length_zip, rr.len, Nat.min_self]
    rw [← rv.length] at hz; exact hz
  obtain ⟨ep, he⟩ := PyProof.Rows.sortedAll_at s.heap its (sortVals (pairKind L) false its its).toArray
  exact ⟨.ref _, upd H (s.heap.objs.size + 1) (.lst (bs.map Prod.fst)), I.laid (t' := s.toks) (fun _ _ => PyProof.Rows.sortedAll_old) (Nat.le_succ _) ⟨hlen2, _, ep, vals, he⟩, rfl, hQ _ _ (I.hok.fresh (Nat.le_succ _)) rel⟩
theorem onSortP (al : Bool) : ON C W (fun xs H Q => ∃ (μ : Mu) (S : HS) (x : D) (v : V) (ds : List D), xs = [v] ∧ Rep C μ S H ∧ RelD C.K μ H x v ∧ getL S x = some ds ∧ (∀ d ∈ ds, (textP d).isSome = true) ∧ (ds.map textO).Nodup ∧
    ∀ p ws, H p = none → RelDs C.K μ H (sortP ds) ws → Q (.ref p) (upd H p (.lst ws))) (oSortP al) := by
  intro μ S H xs ds σ Q R r h
  unfold oSortP at h
  split at h
  · rename_i x
    obtain ⟨v, rfl, rv⟩ := r.l1
    split at h
    · rename_i es e0
      split at h
      · rename_i hc
        exact ⟨μ, S, x, v, es, rfl, R, rv, e0, hc.1, hc.2, fun p ws hp hw => mkL_good R hw h hp⟩
      · exact h.elim
    · exact h.elim
  · exact h.elim
end
end DL
end
section
/-! DL17: sorted(set(..)) of a list of texts. -/
namespace DL
open PySem PySem.Spec PyProof.Rows L2
def leS (a b : Str) : Prop := a.cps.toList ≤ b.cps.toList
theorem leS_trans {a b c : Str} (h : leS a b) (k : leS b c) : leS a c := List.le_trans h k
theorem leS_anti {a b : Str} (h : leS a b) (k : leS b a) : a = b := by
  have e : a.cps.toList = b.cps.toList := List.le_antisymm h k
  cases a; cases b
  simp at e
  rw [e]
theorem rising_pw : ∀ (p : Str) (l : List Str), risingS p l = true → (p :: l).Pairwise leS
  | p, [], _ => by simp
  | p, x :: r, h => by
    have h' : (!ltCps x.cps.toList p.cps.toList && risingS x r) = true := h
    rw [Bool.and_eq_true] at h'
    have ih := rising_pw x r h'.2
    have px : leS p x := by
      have := h'.1
      rw [ltCps_eq] at this
      unfold leS
      simpa using this
    refine List.pairwise_cons.mpr ⟨fun y hy => ?_, ih⟩
    rcases List.mem_cons.mp hy with rfl | hy
    · exact px
    · exact leS_trans px ((List.pairwise_cons.mp ih).1 y hy)
theorem sorted_pw : ∀ {l : List Str}, sortedS l = true → l.Pairwise leS
  | [], _ => List.Pairwise.nil
  | x :: r, h => rising_pw x r h
/-- without repeats -/
def once : List Str → List Str
  | [] => []
  | x :: r => if x ∈ once r then once r else x :: once r
theorem mem_once : ∀ (l : List Str) (x : Str), x ∈ once l ↔ x ∈ l
  | [], x => Iff.rfl
  | y :: r, x => by
    unfold once
    split
    · rename_i h
      rw [mem_once r x, List.mem_cons]
      exact ⟨.inr, fun z => z.elim (fun e => e ▸ (mem_once r y).1 h) id⟩
    · rw [List.mem_cons, List.mem_cons, mem_once r x]
theorem nodup_once : ∀ l : List Str, (once l).Nodup
  | [] => List.nodup_nil
  | y :: r => by
    unfold once
    split
    · exact nodup_once r
    · rename_i h
      exact List.nodup_cons.mpr ⟨h, nodup_once r⟩
def sortT (l : List Str) : List Str := (once l).mergeSort fun a b => decide (a.cps.toList ≤ b.cps.toList)
theorem sortT_pw (l : List Str) : (sortT l).Pairwise leS := by
  have h := List.pairwise_mergeSort (le := fun a b : Str => decide (a.cps.toList ≤ b.cps.toList)) (fun a b c h k => by
    rw [decide_eq_true_eq] at *; exact List.le_trans h k) (fun a b => by
    rw [Bool.or_eq_true, decide_eq_true_eq, decide_eq_true_eq]; exact List.le_total _ _) (once l)
  exact h.imp fun q => of_decide_eq_true q
theorem sortT_perm (l : List Str) : (sortT l).Perm (once l) := List.mergeSort_perm _ _
theorem sortT_mem (l : List Str) (x : Str) : x ∈ sortT l ↔ x ∈ l := (sortT_perm l).mem_iff.trans (mem_once l x)
theorem sortT_nodup (l : List Str) : (sortT l).Nodup := (sortT_perm l).nodup_iff.mpr (nodup_once l)
theorem sortT_uniq {ys l : List Str} (h : sortedS ys = true) (nd : ys.Nodup) (hm : ∀ x, x ∈ ys ↔ x ∈ l) : ys = sortT l :=
  List.Perm.eq_of_pairwise (fun a b _ _ h k => leS_anti h k) (sorted_pw h) (sortT_pw l)
    ((List.perm_ext_iff_of_nodup nd (sortT_nodup l)).mpr fun x => (hm x).trans (sortT_mem l x).symm)
def txOf (e : Int × Value) : Str := match e.2 with
  | .str x _ => x
  | _ => Str.empty
def TxE (w : World) (e : Int × Value) : Prop := ∃ x tk, e.2 = Value.str x tk ∧ e.1 = hashStr w x
/-- the set of texts at a: just those of L -/
structure TxS (w : World) (h : Heap) (a : Addr) (L : List Str) : Prop where
  ex : ∃ o es ep t, h.get? a = some o ∧ o.ExactSet ∧ o.data = .set es ep t ∧ (∀ e ∈ es.toList, TxE w e) ∧ (es.toList.map txOf).Nodup ∧
    (∀ x, x ∈ es.toList.map txOf ↔ x ∈ L) ∧ es.size ≤ L.length ∧ es.size < scanBound ∧ t.fits es.size = true ∧ Ris t.place.toList ∧ (w.params.followText "set-order" = true ∨ t.led = true)
section
variable {P : Program} {w : World} {h h' : Heap} {a : Addr} {L M : List Str}
theorem TxS.kept (R : TxS w h a L) (k : ∀ o, h.get? a = some o → h'.get? a = some o) : TxS w h' a L := by
  obtain ⟨o, es, ep, t, ho, r⟩ := R.ex
  exact ⟨o, es, ep, t, k o ho, r⟩
theorem TxS.same (R : TxS w h a L) (e : ∀ x, x ∈ L ↔ x ∈ M) (hz : L.length ≤ M.length) : TxS w h a M := by
  obtain ⟨o, es, ep, t, ho, hx, hd, g, nd, hm, hn, r⟩ := R.ex
  exact ⟨o, es, ep, t, ho, hx, hd, g, nd, fun x => (hm x).trans (e x), Nat.le_trans hn hz, r⟩
theorem tx_elems {l : List (Int × Value)} (g : ∀ e ∈ l, TxE w e) : ElemsOf (PySem.strKind P w) l := fun e m => by
  obtain ⟨x, tk, e1, e2⟩ := g e m
  refine ⟨⟨x, ?_, e2⟩, ?_⟩
  · rw [e1]; exact strKind_is _ _ _ _
  · rw [e1]; rfl
theorem tx_is {e : Int × Value} (g : TxE w e) (x : Str) : (PySem.strKind P w).is x e.2 = true ↔ txOf e = x := by
  obtain ⟨y, tk, e1, _⟩ := g
  have e3 : txOf e = y := by unfold txOf; rw [e1]
  rw [e3, e1]
  constructor
  · intro q
    exact (PySem.strKind P w).inj (.str y tk) y x (strKind_is _ _ _ _) q
  · rintro rfl
    exact strKind_is _ _ _ _
theorem tx_mem {l : List (Int × Value)} (g : ∀ e ∈ l, TxE w e) (x : Str) : x ∈ l.map txOf ↔ ∃ e ∈ l, (PySem.strKind P w).is x e.2 = true := by
  rw [List.mem_map]
  exact ⟨fun ⟨e, m, q⟩ => ⟨e, m, (tx_is (g e m) x).2 q⟩, fun ⟨e, m, q⟩ => ⟨e, m, (tx_is (g e m) x).1 q⟩⟩
end
section
variable {P : Program} {w : World} {A : Around} {E : Value → Shared → Prop} {s : Shared} {a : Addr} {L : List Str}
theorem txs_tail {g : Bool → Sem Unit} (hg : ∀ (b : Bool) (z : Shared) (R' : Unit → Shared → Prop), R' () z → wpAny (model P w) A (g b) R' E z)
    {o : Obj} {es : Array (Int × Value)} {ep : Nat} {t : SetTable} (ho : s.heap.get? a = some o) (hx : o.ExactSet) (hd : o.data = .set es ep t)
    {fs : Array (Int × Value)} {u : SetTable} {M : List Str} (g1 : ∀ e ∈ fs.toList, TxE w e) (n1 : (fs.toList.map txOf).Nodup) (m1 : ∀ x, x ∈ fs.toList.map txOf ↔ x ∈ M) (z1 : fs.size ≤ M.length)
    (b1 : fs.size < scanBound) (f1 : u.fits fs.size = true) (r1 : Ris u.place.toList) (l1 : w.params.followText "set-order" = true ∨ u.led = true) {dm : Bool} {R : Option Bool → Shared → Prop}
    (hR : ∀ h', Heap.SameBut a s.heap h' → TxS w h' a M → R (some true) { s with heap := h' }) :
    wpAny (model P w) A (do
        storeSet a fs u
        if (!dm && u.tooFull) = true then do
            g (relayAll u fs (SetTable.grown fs.size)).2.2
            storeSet a (relayAll u fs (SetTable.grown fs.size)).1 (relayAll u fs (SetTable.grown fs.size)).2.1
            pure (some true)
          else pure (some true)) R E s := by
  refine wpAny_bind (wpAny_storeSet_of ho hd ?_ (fits_of_scanBound b1))
  have o1 := store_at (es' := fs) (t' := u) ho hd
  have k1 := Heap.SameBut.update s.heap a (Obj.putSet fs u)
  by_cases full : (!dm && u.tooFull) = true
  · rw [if_pos full]
    have pm := relayAll_perm u fs (SetTable.grown fs.size)
    have f2 := relayAll_fits u fs (SetTable.grown fs.size)
    have r2 := relayAll_ris u fs (SetTable.grown fs.size)
    have l2 := relayAll_led u fs (SetTable.grown fs.size)
    generalize relayAll u fs (SetTable.grown fs.size) = Z at pm f2 r2 l2 ⊢
    obtain ⟨gs, v, gave⟩ := Z
    dsimp only at pm f2 r2 l2 ⊢
    have z2 : gs.size = fs.size := by
      have := pm.length_eq
      rwa [Array.length_toList, Array.length_toList] at this
    have b2 : gs.size < scanBound := by omega
    refine wpAny_bind (hg _ _ _ ?_)
    refine wpAny_bind (wpAny_storeSet_of o1 rfl ?_ (fits_of_scanBound b2))
    have o2 := store_at (es' := gs) (t' := v) o1 rfl
    refine wpAny_pure (hR _ (k1.trans (Heap.SameBut.update _ a _)) ⟨_, gs, _, v, o2, hx, rfl, ?_, ?_, ?_, by omega, b2, f2, r2, ?_⟩)
    · exact fun e he => g1 e (pm.mem_iff.mp he)
    · exact (pm.map txOf).nodup_iff.mpr n1
    · exact fun x => (pm.map txOf).mem_iff.trans (m1 x)
    · rw [l2]; exact l1
  · rw [if_neg full]
    exact wpAny_pure (hR _ k1 ⟨_, fs, _, u, o1, hx, rfl, g1, n1, m1, z1, b1, f1, r1, l1⟩)
theorem txs_add {x : Str} {tk : Tok} {Q : Bool → Shared → Prop} (R : TxS w s.heap a L) (room : L.length + 1 < scanBound)
    (hQ : ∀ b h', Heap.SameBut a s.heap h' → TxS w h' a (x :: L) → Q b { s with heap := h' }) :
    wpAny (model P w) A (setAddHashed a (.str x tk) ((PySem.strKind P w).hash x)) Q E s := by
  obtain ⟨o, es, ep, t, ho, hx, hd, g, nd, hm, hn, hb, hf, hr, hl⟩ := R.ex
  have hkey : (PySem.strKind P w).is x (.str x tk) = true := strKind_is _ _ _ _
  have hsc : (Value.str x tk).scannable = true := rfl
  have hel : ElemsOf (PySem.strKind P w) es.toList := tx_elems g
  unfold setAddHashed setAddHashedIn
  refine wpAny_holding ?_
  refine wpAny_bind (wpAny_setState_of ho hd hf ?_)
  dsimp only
  rw [byScan_of hsc hb hel, if_pos rfl]
  unfold setAddByScan
  refine wpAny_bind ?_
  refine wpAny_bind (wpAny_rule ?_)
  refine wpAny_bind (wpAny_setScan_of hkey ho hd hf hel ?_)
  cases hfi : List.findIdx? (fun e => (PySem.strKind P w).is x e.2) es.toList with
  | some j =>
    dsimp only
    obtain ⟨hj, pj, _⟩ := List.findIdx?_eq_some_iff_getElem.mp hfi
    have hin : x ∈ L := (hm x).1 ((tx_mem (P := P) (w := w) g x).2 ⟨_, List.getElem_mem hj, pj⟩)
    refine wpAny_pure (wpAny_pure ?_)
    exact hQ _ s.heap (Heap.SameBut.refl a s.heap) ⟨o, es, ep, t, ho, hx, hd, g, nd, fun y => by
      rw [hm y, List.mem_cons]
      exact ⟨.inr, fun z => z.elim (fun e => e ▸ hin) id⟩, by rw [List.length_cons]; omega, hb, hf, hr, hl⟩
  | none =>
    dsimp only
    have hnk : x ∉ es.toList.map txOf := fun z => by
      obtain ⟨e, he, q⟩ := (tx_mem (P := P) (w := w) g x).1 z
      have c := List.findIdx?_eq_none_iff.mp hfi e he
      rw [q] at c
      cases c
    have give : ∀ (b : Bool) {z : Shared} {R' : Unit → Shared → Prop}, R' () z → wpAny (model P w) A (match b with | true => rule "set.scan.the-table-gave-way" | false => pure ()) R' E z :=
      fun b z R' q => by cases b <;> first | exact wpAny_pure q | exact wpAny_rule q
    have pm := layNew_perm t es ((PySem.strKind P w).hash x) (.str x tk)
    have f1 := layNew_fits t es ((PySem.strKind P w).hash x) (.str x tk)
    have r1 := layNew_ris t es ((PySem.strKind P w).hash x) (.str x tk) hr
    have l1 := layNew_led t es ((PySem.strKind P w).hash x) (.str x tk)
    generalize layNew t es ((PySem.strKind P w).hash x) (.str x tk) = Z at pm f1 r1 l1 ⊢
    obtain ⟨fs, u, dm, gave⟩ := Z
    dsimp only at pm f1 r1 l1 ⊢
    rw [Array.toList_push] at pm
    have pc : fs.toList.Perm (((PySem.strKind P w).hash x, Value.str x tk) :: es.toList) := pm.trans (List.perm_append_singleton _ _)
    have pk : (fs.toList.map txOf).Perm (x :: es.toList.map txOf) := pc.map txOf
    have g1 : ∀ e ∈ fs.toList, TxE w e := fun e he => by
      rcases List.mem_cons.mp (pc.mem_iff.mp he) with z | z
      · rw [z]; exact ⟨x, tk, rfl, rfl⟩
      · exact g e z
    have n1 : (fs.toList.map txOf).Nodup := pk.nodup_iff.mpr (List.nodup_cons.mpr ⟨hnk, nd⟩)
    have m1 : ∀ y, y ∈ fs.toList.map txOf ↔ y ∈ x :: L := fun y => by
      rw [pk.mem_iff, List.mem_cons, List.mem_cons, hm y]
    have z0 : fs.size = es.size + 1 := by
      have := pc.length_eq
      rwa [Array.length_toList, List.length_cons, Array.length_toList] at this
    have z1 : fs.size ≤ (x :: L).length := by rw [List.length_cons]; omega
    have b1 : fs.size < scanBound := by omega
    have led : w.params.followText "set-order" = true ∨ u.led = true := by rw [l1]; exact hl
    refine wpAny_bind (give _ ?_)
    split
    · refine wpAny_bind ?_
      rw [hashByValue_scannable 8 hsc]
      refine wpAny_pure ?_
      refine txs_tail ?_ ho hx hd g1 n1 m1 z1 b1 ?_ ?_ ?_ ?_
      · intro b z R' q
        cases b <;> first | exact wpAny_pure q | exact wpAny_rule q
      · first | (split <;> first | exact f1 | exact SetTable.fits_plain_off f1) | exact f1
      · first | (split <;> exact r1) | exact r1
      · first | (split <;> exact led) | exact led
      · intro h' sb r; dsimp only; exact wpAny_pure (hQ _ h' sb r)
    · refine wpAny_bind (wpAny_pure ?_)
      simp only [↓reduceIte]
      refine txs_tail ?_ ho hx hd g1 n1 m1 z1 b1 f1 r1 led ?_
      · intro b z R' q
        cases b <;> first | exact wpAny_pure q | exact wpAny_rule q
      · intro h' sb r; dsimp only; exact wpAny_pure (hQ _ h' sb r)
/-- the loop that fills it -/
theorem txs_loop {I : Addr} {fp wr : List Addr} {G : Array GenState → Array GenState → Prop} {n : Nat} {Pv : Nat → Value → Prop} {St : Nat → Shared → Prop} {R : Result → Shared → Prop}
    (W : WalksS P w A.in1 I fp wr G n Pv St) (S : Addr) (away : S ∉ fp) (xs : List Str) (hn : n = xs.length) (hb : xs.length + 1 < scanBound)
    (hv : ∀ i v, Pv i v → ∃ x t, xs[i]? = some x ∧ v = .str x t) :
    ∀ (k i : Nat) (s : Shared), n - i = k → i ≤ n → St i s → TxS w s.heap S (xs.take i) →
      (∀ s', Moved (S :: wr) G s s' → TxS w s'.heap S xs → R (.ok (.ret .none)) s') →
      codeAny (model P w) A (.builtin "set.update.loop" ⟨[.ref S, .ref I], []⟩) R s := by
  have hSw : S ∉ wr := fun h => away (W.sub _ h)
  have up : ∀ b ∈ wr, b ∈ S :: wr := fun b hb => List.mem_cons_of_mem _ hb
  intro k
  induction k with
  | zero =>
    intro i s hk hi hst hS hR
    obtain rfl : i = n := by omega
    refine codeAny_builtin F.entry_set_update_loop ?_
    rw [Around.under_plainId F.plain_set_update_loop _]
    show wpAny _ A.in1 (pyNext (.ref I) >>= _) _ _ s
    refine wpAny_bind (W.done s _ _ hst fun s' hm => ?_)
    show wpAny _ A.in1 (ret Value.none) _ _ s'
    refine wpAny_pure (hR s' (hm.mono up) ?_)
    rw [hn, List.take_length] at hS
    exact hS.kept fun o e => hm.heap S o hSw e
  | succ k ih =>
    intro i s hk hi hst hS hR
    have lt : i < n := by omega
    refine codeAny_builtin F.entry_set_update_loop ?_
    rw [Around.under_plainId F.plain_set_update_loop _]
    show wpAny _ A.in1 (pyNext (.ref I) >>= _) _ _ s
    refine wpAny_bind (W.item i s _ _ lt hst fun v s' hP hst' hm => ?_)
    obtain ⟨x, t, ex, rfl⟩ := hv i v hP
    have hS' : TxS w s'.heap S (xs.take i) := hS.kept fun o e => hm.heap S o hSw e
    show wpAny _ A.in1 (holding [Value.str x t] (setAdd S (.str x t)) >>= _) _ _ s'
    refine wpAny_bind (wpAny_holding ?_)
    unfold setAdd
    refine wpAny_holding ?_
    refine wpAny_bind ((PySem.strKind P w).pyHash (k := x) (strKind_is _ _ _ _) ?_)
    refine txs_add (s := { s' with toks := s'.toks + 1 }) hS' (by rw [List.length_take]; omega) fun b h' sb r => ?_
    have en : xs.take (i + 1) = xs.take i ++ [x] := by rw [List.take_add_one, ex]; rfl
    have r2 : TxS w h' S (xs.take (i + 1)) := r.same (fun y => by rw [en]; simp [or_comm]) (by rw [en]; simp)
    have fr := W.frame _ s' h' (s'.toks + 1) hst' (Nat.le_succ _) fun b hb o e => by
      have nb : b ≠ S := fun z => away (z ▸ hb)
      show h'.get? b = _
      rw [sb.2 b nb]; exact e
    refine wpAny_pure ⟨plainId_quiet F.plain_set_update_loop _, ih (i + 1) _ (by omega) lt fr r2 fun z hz hS2 => ?_⟩
    refine hR z (Moved.trans W.gtrans ((hm.mono up).then_heap (Nat.le_succ _) fun b o hb e => ?_) hz) hS2
    have nb : b ≠ S := fun z => hb (z ▸ List.mem_cons_self)
    show h'.get? b = _
    rw [sb.2 b nb]; exact e
abbrev emptySet (w : World) : Obj := { cls := .type "set", dict := none, data := .set #[] 0 (.fresh 0 0 (!w.params.followText "set-order")) }
theorem txs_new {h : Heap} {a : Addr} (ho : h.get? a = some (emptySet w)) : TxS w h a [] :=
  ⟨_, #[], 0, _, ho, ⟨rfl, rfl, rfl⟩, rfl, (fun e m => by simp at m), (by simp), (fun x => by simp), (by simp), (by decide), (by rfl), List.Pairwise.nil, by
    show _ ∨ (!w.params.followText "set-order") = true
    cases w.params.followText "set-order"
    · exact .inr rfl
    · exact .inl rfl⟩
set_option maxHeartbeats 6400000 in
/-- set(l), l a list of texts -/
theorem call_texts {l : Addr} {its : Array Value} (xs : List Str) {Q : Value → Shared → Prop} (hh : A.handled = none) (hl : s.heap.IsList l its) (hi : StrsAre its.toList xs) (hb : xs.length + 1 < scanBound)
    (h : ∀ (h' : Heap) (tk : Nat), TxS w h' s.heap.objs.size xs → (∀ b o, s.heap.get? b = some o → h'.get? b = some o) → Q (.ref s.heap.objs.size) { s with heap := h', toks := tk }) :
    wpAny (model P w) A (call (.type "set") [.ref l]) Q E s := by
  have hz : its.size = xs.length := by
    have q := StrsAre.length hi
    rwa [Array.length_toList] at q
  obtain ⟨c, tl, hmro⟩ := F.called_set.mro
  have hmade := F.called_set.made
  have hsub := F.called_set.sub
  refine wpAny_call (codeAny_of_tree ?_)
  show wpAny _ _ (callAny (.type "set") _) _ _ _
  refine wpAny_pure ⟨Code.quiet_builtin _ (by decide +kernel), codeAny_builtin F.entry_type_call ?_⟩
  rw [Around.under_plain (weight_type_call_type "set" [.ref l] []) rfl]
  have h1 := F.called_set.notType
  have h2 := F.called_set.canCreate
  have hct := F.typeCall_set_1 (.ref l)
  repeat (any_goals (first | assumption | wp_step))
  refine codeAny_mono (code_set_led1 (.ref l) (E := E) (Q₁ := fun x z => x = .ref s.heap.objs.size ∧ z = { s with heap := s.heap.push (emptySet w) }) ⟨rfl, rfl⟩) fun r z hr => ?_
  cases r with
  | error e => exact hr
  | ok fl =>
    cases fl with
    | ret obj =>
      obtain ⟨rfl, rfl⟩ := hr
      have hS : (s.heap.push (emptySet w)).get? s.heap.objs.size = some (emptySet w) := Heap.get?_push_size _ rfl
      have hT : Shared.TypeIs { s with heap := s.heap.push (emptySet w) } (.ref s.heap.objs.size) "set" := ⟨_, hS, rfl⟩
      have hli := F.called_set.init.lookup
      have hbi := F.called_set.init.bind (.ref s.heap.objs.size)
      repeat (any_goals (first | assumption | wp_step))
      refine codeAny_mono (codeAny_call_builtin (R := wants (fun r z => r = .none ∧ ∃ h' tk, z = { s with heap := h', toks := tk } ∧ TxS w h' s.heap.objs.size xs ∧
          (∀ b o, s.heap.get? b = some o → h'.get? b = some o)) E) F.called_set.init.plain F.entry_set_init (check_set_init_1 hT ?_)) fun r2 z hr2 => ?_
      · obtain ⟨ol, hol, hcl, nl, hdl⟩ := hl
        obtain ⟨ocls, odict, odata, oslots⟩ := ol
        simp only at hcl hdl
        subst hcl; subst hdl
        have hol' : (s.heap.push (emptySet w)).get? l = some { cls := .type "list", dict := odict, data := .seq its nl, slots := oslots } := Heap.get?_push_of_some _ hol
        have hsls := F.sub_list_set
        have hslf := F.sub_list_frozenset
        have hne : (Value.type "list" == Value.type "dict") = false := by decide
        have hl1 : (s.heap.push (emptySet w)).IsList l its := ⟨_, hol', rfl, nl, rfl⟩
        unfold Builtin.«set.__init__» noKeywords Builtin.Frozenset.updateFrom
        generalize hPI : pyIter = PI
        wp_walk
        subst hPI
        refine wpAny_pyIter_list hl1 ?_
        refine wpAny_bind (wpAny_runValue ?_)
        have hlS : l < s.heap.objs.size := Heap.lt_size hol
        have hh3 : A.in1.in1.in1.handled = none := by simp [hh]
        have sz : (s.heap.push (emptySet w)).objs.size = s.heap.objs.size + 1 := Heap.size_push ..
        have hneI : l ≠ (s.heap.push (emptySet w)).objs.size := by
          rw [sz]
          exact Nat.ne_of_lt (Nat.lt_succ_of_lt hlS)
        have hSf : s.heap.objs.size ∉ [(s.heap.push (emptySet w)).objs.size, l] := by
          intro m
          rcases List.mem_cons.mp m with e | e
          · rw [sz] at e; exact absurd e (Nat.ne_of_lt (Nat.lt_succ_self _))
          · exact absurd (List.mem_singleton.mp e) (Nat.ne_of_gt hlS)
        have hval : ∀ (i : Nat) (v : Value), its[i]? = some v → ∃ x t, xs[i]? = some x ∧ v = .str x t := fun i v hv => by
          obtain ⟨y, t, e1, e2⟩ := StrsAre.item hi i v (by rw [Array.getElem?_toList]; exact hv)
          exact ⟨y, t, e2, e1⟩
        have e0 : ((s.heap.push (emptySet w)).push { cls := .type "list_iterator", data := .fields #[.ref l, .int 0 0] }).get? s.heap.objs.size = some (emptySet w) := Heap.get?_push_of_some _ hS
        refine txs_loop ((Walks.list hh3 _ l hneI its).toS) s.heap.objs.size hSf xs hz hb hval (its.size - 0) 0 _ (by omega) (Nat.zero_le _)
          ⟨⟨_, Heap.get?_push_size _ rfl, rfl, rfl⟩, (hl1.push _)⟩ (txs_new e0) fun z hm hS2 => ?_
        obtain ⟨h', g2, d', tk', os'⟩ := z
        obtain rfl : g2 = s.gens := hm.gens
        obtain rfl : d' = s.drawn := hm.drawn
        obtain rfl : os' = s.os := hm.os
        show wpAny _ _ _ _ _ _
        refine wpAny_pure ?_
        show wpAny _ _ (ret Value.none) _ _ _
        refine wpAny_pure ⟨rfl, h', tk', rfl, hS2, fun b o e => ?_⟩
        have hb0 : b < s.heap.objs.size := Heap.lt_size e
        refine hm.heap b o (fun m => ?_) (Heap.get?_push_of_some _ (Heap.get?_push_of_some _ e))
        rcases List.mem_cons.mp m with q | q
        · exact absurd q (Nat.ne_of_lt hb0)
        · have e2 := List.mem_singleton.mp q
          rw [sz] at e2
          exact absurd e2 (Nat.ne_of_lt (Nat.lt_succ_of_lt hb0))
      · cases r2 with
        | error e => exact hr2
        | ok fl2 =>
          cases fl2 with
          | ret r =>
            obtain ⟨rfl, h', tk, rfl, hS2, hk⟩ := hr2
            repeat (any_goals (first | assumption | wp_step))
            exact h _ _ hS2 hk
          | _ => exact hr2.elim
    | _ => exact hr.elim
/-- sorted of such a set -/
theorem sorted_texts {Q : Value → Shared → Prop} (R : TxS w s.heap a L) (hh : A.handled = none) (few : L.length < 64)
    (hQ : ∀ s' p (out : Array Value) (c : Nat) (ys : List Str), (∀ b o, s.heap.get? b = some o → s'.heap.get? b = some o) → s'.gens = s.gens → s'.os = s.os → s.heap.objs.size ≤ p →
      s'.heap.get? p = some (seqObj "list" out c) → StrsAre out.toList ys → sortedS ys = true → ys.Nodup → (∀ x, x ∈ ys ↔ x ∈ L) → Q (.ref p) s') :
    wpAny (model P w) A (call (.builtin "sorted") [.ref a]) Q E s := by
  obtain ⟨o, es, ep, t, ho, hx, hd, g, nd, hm, hn, hb, hf, hr, hl⟩ := R.ex
  refine Calls.call_function_entry kind_sorted plain_sorted entry_sorted (args_sorted1 _) ?_
  unfold Builtin.«sorted»
  refine wpAny_bind (m := checkCount "sorted" 1 1 _) (wpAny_pure ?_)
  refine wpAny_bind (collect_set (A := A.in1) hh ⟨o, ho, hx.1, hd⟩ hf hb hr hl fun s1 vs k1 z1 g1 o1 pm => ?_)
  have hvl : vs.length = es.size := by rw [pm.length_eq, List.length_map, Array.length_toList]
  have each : ∀ v ∈ vs, ∃ x tk, v = Value.str x tk := fun v hv => by
    obtain ⟨e, he, q⟩ := List.mem_map.mp (pm.mem_iff.mp hv)
    obtain ⟨x, tk, e1, _⟩ := g e he
    exact ⟨x, tk, by rw [← q]; exact e1⟩
  have hI : StrsAre vs (vs.map PyProof.Rows.strOf) := strsAre_map vs each
  have pk : (vs.map PyProof.Rows.strOf).Perm (es.toList.map txOf) := by
    have q := pm.map PyProof.Rows.strOf
    rw [List.map_map] at q
    exact q
  have hvz : vs.length ≤ sizeLine := by rw [hvl, sizeLine_eq]; omega
  refine wpAny_bind (wpAny_newList ?_ hvz)
  have hoL : (s1.heap.push (seqObj "list" vs.toArray 0)).get? s1.heap.objs.size = some (seqObj "list" vs.toArray 0) := Heap.get?_push_size _ rfl
  refine wpAny_bind (wpAny_holding (wpAny_call_entry slot_list_sort ⟨_, hoL, rfl⟩ entry_list_sort ?_ (args_list_sort _)))
  refine list_sort_treeK strKind_oneLt (s := { s1 with heap := s1.heap.push (seqObj "list" vs.toArray 0) }) hoL hI.keysOf (fun v1 v2 rest e => keyKind_strs (by rw [← e]; exact hI)) (by omega) fun st hp hs => ⟨_, rfl, ?_⟩
  obtain ⟨ys, q1, q2, q3⟩ := sorted_out_str hI hp hs
  obtain ⟨c, hc⟩ := sortedHeap_at (vs := vs) (out := (arrOf st).map (·.2)) hoL
  have pn : ys.Perm (es.toList.map txOf) := q2.trans pk
  refine wpAny_pure ⟨_, rfl, hQ _ s1.heap.objs.size _ c ys (fun b u e => ?_) g1 o1 z1 hc q1 q3 (pn.nodup_iff.mpr nd) fun x => pn.mem_iff.trans (hm x)⟩
  have q := k1 b u e
  have lt := Heap.lt_size q
  show (sortedHeap (s1.heap.push (seqObj "list" vs.toArray 0)) s1.heap.objs.size vs _).get? b = some u
  rw [sortedHeap_old (Nat.ne_of_lt lt) (by rw [size_push']; exact Nat.lt_succ_of_lt lt)]
  exact Heap.get?_push_of_some _ q
end
/-- sorted(set(x)), x a list of texts -/
def oSortT (al : Bool) (x : D) (s : HS) : Res D := match (getL s x).bind (allP strOf) with
  | some ys => if ys.length < 63 then mkL al ((sortT ys).map D.str) s else .bad
  | none => .bad
theorem strs_back {K : PySem.W.Frag} {μ : Mu} {H : Hp} : ∀ (ys : List Str), RelDs K μ H (ys.map D.str) (ys.map V.str)
  | [] => rfl
  | y :: ys => ⟨.str y, ys.map V.str, rfl, rfl, strs_back ys⟩
theorem strs_vals : ∀ {ys : List Str} {us : List Value}, StrsAre us ys → Vals (ys.map V.str) us
  | _, _, .nil => .nil
  | _, _, .cons x t r => .cons ⟨t, rfl⟩ (strs_vals r)
theorem vals_strs : ∀ {ys : List Str} {us : List Value}, Vals (ys.map V.str) us → StrsAre us ys
  | [], _, .nil => .nil
  | y :: ys, _, .cons r t => by
    obtain ⟨k, rfl⟩ := r
    exact .cons y k (vals_strs t)
section
variable {C : Ct} {X : Cx} {W : WX} {e : Expr} {f : SE}
def tSortT (K : PySem.W.Frag) (ta : TE) : TE := fun σ H Q => ta σ H fun x H1 => ∃ (l : Addr) (xs : List Str), x = .ref l ∧ SqL K H1 l (xs.map V.str) ∧ xs.length < 63 ∧ ∀ p, H1 p = none → Q (.ref p) (upd H1 p (.lst ((sortT xs).map V.str)))
theorem pe_sortT {ta : TE} {p p2 q pos : Pos} (hc : X.calm = true) (hg : Gl X "sorted") (hm : X.mg "sorted" = none) (hg2 : Gl X "set") (hm2 : X.mg "set" = none) (ha : PE X e ta)
    (na : starEach [e] X.env = (false, eval e X.env) :: starEach [] X.env := by rfl) : PE X (.Call (.Name "sorted" p) [.Call (.Name "set" p2) [e] [] q] [] pos) (tSortT X.K ta) := by
  refine ⟨fun pins s σ H Q I h => ?_⟩
  refine Call_ (ld_blt I hg hm (by decide +kernel : bootBuiltins "sorted" = some (.builtin "sorted")) ?_)
  refine PyProof.Rows.callWith_builtin1 (PyProof.Rows.args_cons ?_ rfl) rfl rfl
  refine Call_ (ld_blt I hg2 hm2 boot_set ?_)
  refine PyProof.Rows.callWith_type1 (PyProof.Rows.args_cons (thn (ha.run pins s σ H _ I h) fun v s1 ⟨x, H1, I1, r1, q1⟩ => PyProof.Rows.args_nil ?_) na) na rfl
  obtain ⟨l, xs, rfl, hq, hz, q1⟩ := q1
  cases r1
  obtain ⟨its, r, pl, hz2⟩ := I1.list hq
  refine call_texts xs (I1.ok.hd hc) pl.isList (by simpa using vals_strs r) (by unfold scanBound; omega) fun h' tk R hk => ?_
  refine PyProof.Rows.args_nil ?_
  have I2 : Inv X pins σ H1 { s1 with heap := h', toks := tk } := I1.kept hk
  obtain ⟨s2, hs2⟩ : ∃ s2 : Shared, { s1 with heap := h', toks := tk } = s2 := ⟨_, rfl⟩
  have R : TxS X.w s2.heap s1.heap.objs.size xs := by rw [← hs2]; exact R
  rw [hs2] at I2 ⊢
  clear hs2
  refine sorted_texts (s := s2) R (I1.ok.hd hc) (by omega) fun s' b out c ys k g o hb hg' hi hs nd mem => ?_
  obtain rfl := sortT_uniq hs nd mem
  have hlen : ((sortT xs).map V.str).length ≤ sizeLine := by
    have h1 := (sortT_perm xs).length_eq
    have h2 : (once xs).length ≤ xs.length := by
      have sub : ∀ l : List Str, (once l).length ≤ l.length := by
        intro l
        induction l with
        | nil => exact Nat.le_refl _
        | cons y r ih =>
          unfold once
          split
          · rw [List.length_cons]; omega
          · rw [List.length_cons, List.length_cons]; omega
      exact sub xs
    rw [List.length_map, sizeLine_eq]; omega
  have hn : H1 b = none := I2.hok.fresh hb
  have J : Inv X pins σ (upd H1 b (.lst ((sortT xs).map V.str))) { s2 with heap := s'.heap, gens := s'.gens, drawn := s'.drawn, toks := s'.toks } :=
    I2.call (ch := []) (Un.laid k hb hn) (I2.hok.laid k hb ⟨hlen, out.toList, c, strs_vals hi, hg'⟩) (by rw [g]; exact I2.bare) (fun _ z => nomatch z)
  have es : s' = { s2 with heap := s'.heap, gens := s'.gens, drawn := s'.drawn, toks := s'.toks } := by
    cases s'
    cases s2
    cases o
    rfl
  rw [es]
  exact ⟨.ref b, _, J, rfl, q1 b hn⟩
theorem lsortT (al : Bool) (o : Ok C X W) {p p2 q pos : Pos} (hg : Gl X "sorted") (hm : X.mg "sorted" = none) (hg2 : Gl X "set") (hm2 : X.mg "set" = none) (ha : LE C X W e f)
    (na : starEach [e] X.env = (false, eval e X.env) :: starEach [] X.env := by rfl) : LE C X W (.Call (.Name "sorted" p) [.Call (.Name "set" p2) [e] [] q] [] pos) (b1 f (oSortT al)) :=
  PE.imp (pe_sortT o.calm hg hm hg2 hm2 ha na) fun σ H Q h => Lift.k h fun sd x H1 μ1 S1 dx R1 rs1 rx h1 => by
    unfold oSortT at h1
    split at h1
    · rename_i ys e0
      split at h1
      · rename_i hz
        cases e1 : getL S1 dx with
        | none => rw [e1] at e0; cases e0
        | some ds =>
          rw [e1] at e0
          have e0 : allP strOf ds = some ys := e0
          obtain ⟨t, vs, rfl, ht, rr⟩ := rx.list R1 e1
          obtain ⟨rfl, _⟩ := strs_of rr e0
          refine ⟨t, ys, rfl, by rw [o.K]; exact ht, hz, fun p hp => ?_⟩
          exact mkL_good R1 (strs_back _) h1 hp
      · exact h1.elim
    · exact h1.elim
end
end DL
end
section
set_option maxHeartbeats 4100000
/-! DL18: list(range(n)); count and index of a bool in a list of bools. -/
namespace DL
open PySem L2 PySem.Spec PyProof.Rows
def oLstRg (al : Bool) (x : D) (s : HS) : Res D := match x with
  | .int j => if -(2 ^ 62) ≤ j ∧ j ≤ 16777216 then mkL al (rngD 0 j.toNat) s else .bad
  | _ => .bad
def blOf : D → Option Bool
  | .bl b => some b
  | _ => none
def oCountB (x : D) (xs : List D) (s : HS) : Res D := match xs with
  | [.bl k] => match (getL s x).bind (allP blOf) with
    | some ns => .ok (.int (ns.count k : Nat)) s
    | none => .bad
  | _ => .bad
def oIndexB (x : D) (xs : List D) (s : HS) : Res D := match xs with
  | [.bl k] => match (getL s x).bind (allP blOf) with
    | some ns => if k ∈ ns then .ok (.int (ns.idxOf k : Nat)) s else .bad
    | none => .bad
  | _ => .bad
section
variable {C : Ct} {X : Cx} {W : WX} {e : Expr} {f : SE}
theorem rg_rel {K : PySem.W.Frag} {μ : Mu} {H : Hp} (j : Int) : RelDs K μ H (rngD 0 j.toNat) (rgV 0 j) := by
  have go : ∀ L : List Nat, RelDs K μ H (L.map fun i => D.int (0 + (i : Nat))) (L.map fun i => V.int (0 + (i : Nat))) := by
    intro L
    induction L with
    | nil => exact rfl
    | cons a L ih => exact ⟨_, _, rfl, rfl, ih⟩
  have ez : (j - 0).toNat = j.toNat := by rw [Int.sub_zero]
  unfold rgV rngD
  rw [ez]
  exact go _
theorem lLstRg (al : Bool) (o : Ok C X W) {p p2 q pos : Pos} (hg : Gl X "list") (hm : X.mg "list" = none) (hg2 : Gl X "range") (hm2 : X.mg "range" = none) (ha : LE C X W e f)
    (na : starEach [e] X.env = (false, eval e X.env) :: starEach [] X.env := by rfl) (nb : starEach [Expr.Call (.Name "range" p2) [e] [] q] X.env = (false, eval (.Call (.Name "range" p2) [e] [] q) X.env) :: starEach [] X.env := by rfl) :
    LE C X W (.Call (.Name "list" p) [.Call (.Name "range" p2) [e] [] q] [] pos) (b1 f (oLstRg al)) :=
  PE.imp (pe_listRg o.calm hg hm (prg_1 hg2 hm2 ha na) nb) fun σ H Q h => Lift.k h fun sd x H1 μ1 S1 dx R1 rs1 rx h1 => by
    unfold oLstRg at h1
    split at h1
    · rename_i j
      cases (show x = .int j from rx)
      split at h1
      · rename_i hj
        exact ⟨j, rfl, ⟨by omega, by omega, hj.1, by omega, by omega⟩, fun q hq => mkL_good R1 (rg_rel j) h1 hq⟩
      · exact h1.elim
    · exact h1.elim
theorem bls_of {K : PySem.W.Frag} {μ : Mu} {H : Hp} : ∀ {ds : List D} {vs : List V} {ns : List Bool}, RelDs K μ H ds vs → allP blOf ds = some ns → vs = ns.map V.bl
  | [], vs, ns, r, h => by
    cases h
    exact r
  | d :: ds, vs, ns, ⟨v, u, e, r1, r2⟩, h => by
    subst e
    rcases allP_some h with ⟨e, _⟩ | ⟨d', r', p, q, e, rfl, h1, h2⟩
    · cases e
    · cases e
      cases d with
      | bl z =>
        have r1 : v = .bl z := r1
        subst r1
        cases (show some z = some p from h1)
        rw [bls_of r2 h2]; rfl
      | _ => cases h1
theorem flat_bls (ns : List Bool) : (ns.map V.bl).all flatV = true := by
  rw [List.all_map]
  exact List.all_eq_true.mpr fun _ _ => rfl
theorem count_eqU {k : Bool} : ∀ {ns : List Bool} {us : List Value}, Vals (ns.map V.bl) us → us.countP (eqU (.bl k)) = ns.count k
  | [], _, .nil => rfl
  | n :: ns, _, .cons r t => by
    have e1 : eqU (.bl k) _ = eqV (.bl n) (.bl k) := eqU_of r rfl
    have ih := count_eqU (k := k) t
    have e2 : eqV (.bl n) (.bl k) = (n == k) := by cases n <;> cases k <;> rfl
    rw [List.countP_cons, List.count_cons, ih, e1, e2]
def rCntB (K : PySem.W.Frag) : V → List V → Hp → VK → Prop := fun x xs H Q => ∃ (p : Addr) (ns : List Bool) (k : Bool), x = .ref p ∧ xs = [.bl k] ∧ SqL K H p (ns.map V.bl) ∧ Q (.int (ns.count k : Nat)) H
theorem mt_cntB : MtR X "list.count" (rCntB X.K) := by
  intro pins s σ H x xs v us Q I rx rxs h
  obtain ⟨p, ns, k, rfl, rfl, hs, q⟩ := h
  cases rx
  obtain ⟨u, rfl, ru⟩ := rxs.one
  obtain ⟨its, rv, ⟨⟨cls, dd, data, sl⟩, n, ho, hc, hdn, hd⟩, hlen⟩ := I.list hs
  simp only at hc hd
  subst hc; subst hd
  refine call_meets PySem.F.slot_list_count ⟨_, ho, rfl⟩ PySem.F.entry_list_count (PySem.F.args_list_count_2 _ _)
    (SeqAt.list_countAt p its.toArray n dd sl u (eqU (.bl k))) ⟨ho, fun y hy => mem_eqAt (x := .bl k) ru rfl rv (flat_bls ns) y (by simpa using hy), ?_⟩
  have ec : its.toArray.toList.countP (eqU (.bl k)) = ns.count k := count_eqU rv
  refine ⟨.int (ns.count k : Nat), H, I.tok _, ⟨s.toks, ?_⟩, q⟩
  show Value.int ((its.toArray.toList.countP (eqU (.bl k)) : Nat) : Int) s.toks = Value.int ((ns.count k : Nat) : Int) s.toks
  rw [ec]
theorem omCountB (o : Ok C X W) : OM C W (rCntB X.K) oCountB := by
  intro μ S H x dx xs ds σ Q R rx rs h
  unfold oCountB at h
  split at h
  · rename_i k
    obtain ⟨y, rfl, ry⟩ := rs.l1
    cases (show y = .bl k from ry)
    split at h
    · rename_i ns e0
      cases e1 : getL S dx with
      | none => rw [e1] at e0; cases e0
      | some ds =>
        rw [e1] at e0
        obtain ⟨t, vs, rfl, ht, rr⟩ := rx.list R e1
        obtain rfl := bls_of rr e0
        exact ⟨t, ns, k, rfl, rfl, by rw [o.K]; exact ht, h.ok .refl R rfl⟩
    · exact h.elim
  · exact h.elim
theorem omIndexB (o : Ok C X W) : OM C W (rIndex X.K) oIndexB := by
  intro μ S H x dx xs ds σ Q R rx rs h
  unfold oIndexB at h
  split at h
  · rename_i k
    obtain ⟨y, rfl, ry⟩ := rs.l1
    cases (show y = .bl k from ry)
    split at h
    · rename_i ns e0
      split at h
      · rename_i hk
        cases e1 : getL S dx with
        | none => rw [e1] at e0; cases e0
        | some ds =>
          rw [e1] at e0
          obtain ⟨t, vs, rfl, ht, rr⟩ := rx.list R e1
          obtain rfl := bls_of rr e0
          have lt : ns.idxOf k < ns.length := List.idxOf_lt_length_iff.mpr hk
          have ev : ∀ n : Bool, eqV (.bl n) (.bl k) = (n == k) := fun n => by cases n <;> cases k <;> rfl
          refine ⟨t, ns.map V.bl, .bl k, ns.idxOf k, .bl k, rfl, rfl, by rw [o.K]; exact ht, rfl, flat_bls ns, ?_, by rw [ev]; simp, fun m z hm hz => ?_, h.ok .refl R rfl⟩
          · rw [List.getElem?_map, List.getElem?_eq_getElem lt, List.getElem_idxOf lt]; rfl
          · rw [List.getElem?_map] at hz
            cases e2 : ns[m]? with
            | none => rw [e2] at hz; cases hz
            | some b =>
              rw [e2] at hz
              cases hz
              rw [ev]
              obtain ⟨hl, rfl⟩ := List.getElem?_eq_some_iff.mp e2
              exact List.not_of_lt_findIdx hm
      · exact h.elim
    · exact h.elim
  · exact h.elim
end
end DL
end
section
set_option maxHeartbeats 4100000
/-! DL19: == and != of two dicts that hold the same plain data. -/
namespace DL
open PySem L2 PySem.Spec PyProof.Rows
open Classical in
/-- told only where they are equal -/
noncomputable def oDEq (neg : Bool) (x y : D) (s : HS) : Res D := match x, y with
  | .ref n, .ref m => match s.h n, s.h m with
    | some (.dict ks), some (.dict ls) => if ks.length = ls.length ∧ ∀ p ∈ ks, ∃ w d e, lkK ls p.1 = some w ∧ toP 8 s p.2 = some d ∧ toP 8 s w = some e ∧ PyData.eqv d e = true then .ok (.bl (!neg)) s else .bad
    | _, _ => .bad
  | _, _ => .bad
/-- two dicts of plain data, alike -/
def rDEq (K : PySem.W.Frag) (neg : Bool) : R2 := fun x y H Q => ∃ a b ks ls, x = .ref a ∧ y = .ref b ∧ H a = some (.dK ks) ∧ H b = some (.dK ls) ∧ ks.length = ls.length ∧
  (∀ p ∈ ks, ∃ u d e, valV ls p.1 = some u ∧ Dp K H p.2 d ∧ Dp K H u e ∧ SeqAt.shaped d = true ∧ SeqAt.shaped e = true ∧ PyData.eqv d e = true) ∧ Q (.bl (!neg)) H
section
variable {X : Cx} {pins : List (Addr × Obj)} {σ : L2.St} {H : Hp} {s : Shared}
theorem hits_data (I : Inv X pins σ H s) {A : Around} (hu : A.in1.units + 64 < cLine) {ls : List (Key × V)} {vb : List (Key × Value)} (rb : KV ls vb) :
    ∀ {ks : List (Key × V)} {va : List (Key × Value)}, KV ks va → (∀ p ∈ ks, ∃ u d e, valV ls p.1 = some u ∧ Dp X.K H p.2 d ∧ Dp X.K H u e ∧ SeqAt.shaped d = true ∧ SeqAt.shaped e = true ∧ PyData.eqv d e = true) → PySem.W.KeqHits A.in1 s vb va true := by
  intro ks va ra
  unfold KV at ra
  induction ra with
  | nil => intro _; exact .nil
  | @cons p q ps qs h t ih =>
    intro hp
    obtain ⟨h1, h2⟩ := h
    obtain ⟨u, d, e, e1, p1, p2, s1, s2, e2⟩ := hp p List.mem_cons_self
    have rr : RelO (some u) (valueAt vb p.1) := by rw [← e1]; exact rb.val p.1
    obtain ⟨y, hy, ry⟩ := rr.some_of
    obtain ⟨key, v⟩ := q
    have h1' : p.1 = key := h1
    rw [h1'] at hy
    obtain ⟨as, r1⟩ := Dp.reads I d p.2 v p1 h2
    obtain ⟨bs, r2⟩ := Dp.reads I e u y p2 ry
    have at1 : SeqAt.EqAt A.in1 s v y (PyData.eqv d e) := PySem.W.keq_at (A := A) r1 r2 s1 s2 hu
    rw [e2] at at1
    exact .hit (e := true) (b := true) hy at1 (ih fun p' hm => hp p' (List.mem_cons_of_mem _ hm))
end
section
variable {X : Cx}
theorem op_deq (hu : X.A.units + 65 < cLine) : OpR X (compareOp .Eq) (rDEq X.K false) := by
  intro pins s σ H x y v u Q I rx ry h
  obtain ⟨a, b, ks, ls, rfl, rfl, ea, eb, hl, hp, q⟩ := h
  obtain rfl : v = Value.ref a := rx
  obtain rfl : u = Value.ref b := ry
  obtain ⟨_, ya, va, ra, da⟩ := (show ObjOk X.prog X.w H s.heap a (.dK ks) from I.hok a _ ea)
  obtain ⟨_, yb, vb, rb, db⟩ := (show ObjOk X.prog X.w H s.heap b (.dK ls) from I.hok b _ eb)
  have len : va.length = vb.length := by rw [← ra.length, ← rb.length]; exact hl
  refine PySem.W.keq_eq (knd := mixKind X.prog X.w) (r := true) ya yb da db (by omega) (fun _ => hits_data I (A := X.A) (by show X.A.units + 1 + 64 < cLine; omega) rb ra hp) ?_
  exact fin_bl I q (by simp [len])
theorem op_dne (hu : X.A.units + 65 < cLine) : OpR X (compareOp .NotEq) (rDEq X.K true) := by
  intro pins s σ H x y v u Q I rx ry h
  obtain ⟨a, b, ks, ls, rfl, rfl, ea, eb, hl, hp, q⟩ := h
  obtain rfl : v = Value.ref a := rx
  obtain rfl : u = Value.ref b := ry
  obtain ⟨_, ya, va, ra, da⟩ := (show ObjOk X.prog X.w H s.heap a (.dK ks) from I.hok a _ ea)
  obtain ⟨_, yb, vb, rb, db⟩ := (show ObjOk X.prog X.w H s.heap b (.dK ls) from I.hok b _ eb)
  have len : va.length = vb.length := by rw [← ra.length, ← rb.length]; exact hl
  refine PySem.W.keq_ne (knd := mixKind X.prog X.w) (r := true) ya yb da db (by omega) (fun _ => hits_data I (A := X.A) (by show X.A.units + 1 + 64 < cLine; omega) rb ra hp) ?_
  exact fin_bl I q (by simp [len])
end
section
variable {C : Ct} {X : Cx} {W : WX} {a b : Expr} {f g : SE} {pos : Pos}
theorem rel_at {S : HS} {μ : Mu} {H : Hp} {K : PySem.W.Frag} : ∀ {kvs : List (Key × D)} {vs : List (Key × V)}, RelM K μ H kvs vs → ∀ p ∈ vs, ∃ d, (p.1, d) ∈ kvs ∧ RelD K μ H d p.2
  | [], vs, h, p, hp => by
    have h : vs = [] := h
    subst h
    cases hp
  | (k, d) :: kvs, vs, ⟨v, r, e, h1, h2⟩, p, hp => by
    subst e
    rcases List.mem_cons.mp hp with rfl | hp
    · exact ⟨d, List.mem_cons_self, h1⟩
    · obtain ⟨d', m, r'⟩ := rel_at (S := S) h2 p hp
      exact ⟨d', List.mem_cons_of_mem _ m, r'⟩
theorem relM_len {μ : Mu} {H : Hp} {K : PySem.W.Frag} : ∀ {kvs : List (Key × D)} {vs : List (Key × V)}, RelM K μ H kvs vs → vs.length = kvs.length
  | [], vs, h => by
    have h : vs = [] := h
    subst h; rfl
  | (k, d) :: kvs, vs, ⟨v, r, e, h1, h2⟩ => by
    subst e
    rw [List.length_cons, List.length_cons, relM_len h2]
theorem ldcmp (neg : Bool) {op : CmpOp} (ho : OpR X (compareOp op) (rDEq X.K neg)) (o : Ok C X W) (ha : LE C X W a f) (hb : LE C X W b g) (hm : behindInMarks op b = false) : LCmp C X W (.Compare a [op] [b] pos) (b2 f g (oDEq neg)) := lcmp ho (fun μ S H x y dx dy σ Q R rx ry h => by
  unfold oDEq at h
  split at h
  · rename_i n m
    split at h
    · rename_i ks ls e1 e2
      split at h
      · rename_i hc
        obtain ⟨hl, hp⟩ := hc
        obtain ⟨a1, rfl, m1⟩ := rx
        obtain ⟨b1, rfl, m2⟩ := ry
        obtain ⟨o1, q1, z2⟩ := R.obj n a1 m1
        rw [e1] at q1
        cases q1
        obtain ⟨va, z1, z2⟩ := z2
        obtain ⟨o2, q2, y2⟩ := R.obj m b1 m2
        rw [e2] at q2
        cases q2
        obtain ⟨vb, y1, y2⟩ := y2
        refine ⟨a1, b1, va, vb, rfl, rfl, z1, y1, by rw [relM_len z2, relM_len y2]; exact hl, fun p hp' => ?_, h.ok .refl R rfl⟩
        obtain ⟨d, md, rd⟩ := rel_at (S := S) z2 p hp'
        obtain ⟨w, pd, pe, f1, f2, f3, f4⟩ := hp _ md
        obtain ⟨u, hu, ru⟩ := (RelM.find p.1 y2).2 w f1
        obtain ⟨t1, t2, t3⟩ := toP_rel R 8 d p.2 pd f2 rd
        obtain ⟨t4, t5, t6⟩ := toP_rel R 8 w u pe f3 ru
        rw [← o.K] at t1 t4
        exact ⟨u, pd, pe, hu, t1, t4, shaped_of t2 t3, shaped_of t5 t6, f4⟩
      · exact h.elim
    · exact h.elim
  · exact h.elim) ha hb hm
theorem ldeq (hu : X.A.units + 65 < cLine) (o : Ok C X W) (ha : LE C X W a f) (hb : LE C X W b g) : LCmp C X W (.Compare a [.Eq] [b] pos) (b2 f g (oDEq false)) := ldcmp false (op_deq hu) o ha hb (nomark _)
theorem ldne (hu : X.A.units + 65 < cLine) (o : Ok C X W) (ha : LE C X W a f) (hb : LE C X W b g) : LCmp C X W (.Compare a [.NotEq] [b] pos) (b2 f g (oDEq true)) := ldcmp true (op_dne hu) o ha hb (nomark _)
end
end DL
end
section
/-! PU1: running the Lean functions by simp. -/
namespace DL
open PySem PySem.Spec PyProof.Rows L2
section
variable {sd : Sl} {s : HS}
@[simp] theorem e_seq (f g : SS) : seq f g sd s = (f sd s).bind g := (rfl)
@[simp] theorem e_skip : skip sd s = .nx sd s := (rfl)
def kNx (sd : Sl) (_ : D) (s : HS) : SR := .nx sd s
@[simp] theorem k_Nx (d : D) : kNx sd d s = .nx sd s := (rfl)
@[simp] theorem e_exS (f : SE) : exS f sd s = (f sd s).bs sd (kNx sd) := (rfl)
def kSet (i : Nat) (sd : Sl) (d : D) (s : HS) : SR := .nx (sd.set i (some d)) s
@[simp] theorem k_Set (i : Nat) (d : D) : kSet i sd d s = .nx (sd.set i (some d)) s := (rfl)
@[simp] theorem e_setS (i : Nat) (f : SE) : setS i f sd s = (f sd s).bs sd (kSet i sd) := (rfl)
@[simp] theorem e_retS (f : SE) : retS f sd s = (f sd s).bs sd SR.rt := (rfl)
@[simp] theorem e_retN : retN sd s = .rt .non s := (rfl)
@[simp] theorem e_brk : brkS sd s = .bk sd s := (rfl)
@[simp] theorem e_cnt : cntS sd s = .ct sd s := (rfl)
def kIf (f g : SS) (sd : Sl) (b : Bool) (s : HS) : SR := if b = true then f sd s else g sd s
@[simp] theorem k_If (f g : SS) (b : Bool) : kIf f g sd b s = if b = true then f sd s else g sd s := (rfl)
@[simp] theorem e_ifS (c : ST) (f g : SS) : ifS c f g sd s = (c sd s).bs sd (kIf f g sd) := (rfl)
def kAg2 (i : Nat) (sd : Sl) (z : D) (s : HS) : SR := .nx (sd.set i (some z)) s
@[simp] theorem k_Ag2 (i : Nat) (z : D) : kAg2 i sd z s = .nx (sd.set i (some z)) s := (rfl)
def kAg1 (i : Nat) (op : D → D → HS → Res D) (sd : Sl) (x d : D) (s : HS) : SR := (op x d s).bs sd (kAg2 i sd)
@[simp] theorem k_Ag1 (i : Nat) (op : D → D → HS → Res D) (x d : D) : kAg1 i op sd x d s = (op x d s).bs sd (kAg2 i sd) := (rfl)
def kAg (i : Nat) (f : SE) (op : D → D → HS → Res D) (sd : Sl) (x : D) (s : HS) : SR := (f sd s).bs sd (kAg1 i op sd x)
@[simp] theorem k_Ag (i : Nat) (f : SE) (op : D → D → HS → Res D) (x : D) : kAg i f op sd x s = (f sd s).bs sd (kAg1 i op sd x) := (rfl)
@[simp] theorem e_augS (i : Nat) (f : SE) (op : D → D → HS → Res D) : augS i f op sd s = (v_ i sd s).bs sd (kAg i f op sd) := (rfl)
def slot : Sl → Nat → Option D
  | [], _ => none
  | x :: _, 0 => x
  | _ :: r, i + 1 => slot r i
@[simp] theorem slot0 (x : Option D) (r : Sl) : slot (x :: r) 0 = x := (rfl)
@[simp] theorem slotS (x : Option D) (r : Sl) (i : Nat) : slot (x :: r) (i + 1) = slot r i := (rfl)
theorem slot_eq : ∀ (sd : Sl) (i : Nat), sd[i]? = some (slot sd i) ∨ (sd[i]? = none ∧ slot sd i = none)
  | [], i => .inr ⟨by simp, rfl⟩
  | x :: r, 0 => .inl (by simp)
  | x :: r, i + 1 => by simpa using slot_eq r i
def vres : Option D → HS → Res D
  | some d, s => .ok d s
  | none, _ => .bad
@[simp] theorem vres_some (d : D) : vres (some d) s = .ok d s := (rfl)
@[simp] theorem e_v {i : Nat} : v_ i sd s = vres (slot sd i) s := by
  unfold v_
  rcases slot_eq sd i with h | ⟨h, h2⟩
  · rw [h]
    cases slot sd i <;> rfl
  · rw [h, h2]; rfl
@[simp] theorem e_c (d : D) : c_ d sd s = .ok d s := (rfl)
def kB2 (g : SE) (op : D → D → HS → Res D) (sd : Sl) (x : D) (s : HS) : Res D := (g sd s).bind (op x)
@[simp] theorem k_B2 (g : SE) (op : D → D → HS → Res D) (x : D) : kB2 g op sd x s = (g sd s).bind (op x) := (rfl)
@[simp] theorem e_b2 (f g : SE) (op : D → D → HS → Res D) : b2 f g op sd s = (f sd s).bind (kB2 g op sd) := (rfl)
@[simp] theorem e_b1 (f : SE) (op : D → HS → Res D) : b1 f op sd s = (f sd s).bind op := (rfl)
@[simp] theorem e_bN (g : SA) (op : List D → HS → Res D) : bN g op sd s = (g sd s).bind op := (rfl)
@[simp] theorem e_anil : anil sd s = .ok [] s := (rfl)
def kAc2 (x : D) (xs : List D) (s : HS) : Res (List D) := .ok (x :: xs) s
@[simp] theorem k_Ac2 (x : D) (xs : List D) : kAc2 x xs s = .ok (x :: xs) s := (rfl)
def kAc (g : SA) (sd : Sl) (x : D) (s : HS) : Res (List D) := (g sd s).bind (kAc2 x)
@[simp] theorem k_Ac (g : SA) (x : D) : kAc g sd x s = (g sd s).bind (kAc2 x) := (rfl)
@[simp] theorem e_acons (f : SE) (g : SA) : acons f g sd s = (f sd s).bind (kAc g sd) := (rfl)
@[simp] theorem e_tup (g : SA) : tupE g sd s = (g sd s).bind mkT := (rfl)
@[simp] theorem e_lst (b : Bool) (g : SA) : lstE b g sd s = (g sd s).bind (mkL b) := (rfl)
def kAnd (g : SE) (sd : Sl) : D → HS → Res D
  | .bl true, s => g sd s
  | .bl false, s => .ok (.bl false) s
  | _, _ => .bad
@[simp] theorem k_And (g : SE) (b : Bool) : kAnd g sd (.bl b) s = if b = true then g sd s else .ok (.bl false) s := by cases b <;> rfl
@[simp] theorem e_and (f g : SE) : andE f g sd s = (f sd s).bind (kAnd g sd) := by
  unfold andE
  congr 1
  funext x t
  cases x <;> first | rfl | (rename_i b; cases b <;> rfl)
def kOr (g : SE) (sd : Sl) : D → HS → Res D
  | .bl true, s => .ok (.bl true) s
  | .bl false, s => g sd s
  | _, _ => .bad
@[simp] theorem k_Or (g : SE) (b : Bool) : kOr g sd (.bl b) s = if b = true then .ok (.bl true) s else g sd s := by cases b <;> rfl
@[simp] theorem e_or (f g : SE) : orE f g sd s = (f sd s).bind (kOr g sd) := by
  unfold orE
  congr 1
  funext x t
  cases x <;> first | rfl | (rename_i b; cases b <;> rfl)
def kNot : D → HS → Res D := fun x s => match x with
  | .bl b => .ok (.bl (!b)) s
  | _ => .bad
@[simp] theorem k_Not (b : Bool) : kNot (.bl b) s = .ok (.bl (!b)) s := (rfl)
@[simp] theorem e_not (f : SE) : notE f sd s = (f sd s).bind kNot := (rfl)
def kTb : D → HS → Res Bool := fun x s => match x with
  | .bl b => .ok b s
  | _ => .bad
@[simp] theorem k_Tb (b : Bool) : kTb (.bl b) s = .ok b s := (rfl)
@[simp] theorem e_tb (f : SE) : tb f sd s = (f sd s).bind kTb := (rfl)
def kAndT (g : ST) (sd : Sl) (b : Bool) (s : HS) : Res Bool := if b = true then g sd s else .ok false s
@[simp] theorem k_AndT (g : ST) (b : Bool) : kAndT g sd b s = if b = true then g sd s else .ok false s := (rfl)
@[simp] theorem e_andT (f g : ST) : andT f g sd s = (f sd s).bind (kAndT g sd) := (rfl)
def kOrT (g : ST) (sd : Sl) (b : Bool) (s : HS) : Res Bool := if b = true then .ok true s else g sd s
@[simp] theorem k_OrT (g : ST) (b : Bool) : kOrT g sd b s = if b = true then .ok true s else g sd s := (rfl)
@[simp] theorem e_orT (f g : ST) : orT f g sd s = (f sd s).bind (kOrT g sd) := (rfl)
def kNotT (b : Bool) (s : HS) : Res Bool := .ok (!b) s
@[simp] theorem k_NotT (b : Bool) : kNotT b s = .ok (!b) s := (rfl)
@[simp] theorem e_notT (f : ST) : notT f sd s = (f sd s).bind kNotT := (rfl)
def kIfE (f g : SE) (sd : Sl) (b : Bool) (s : HS) : Res D := if b = true then f sd s else g sd s
@[simp] theorem k_IfE (f g : SE) (b : Bool) : kIfE f g sd b s = if b = true then f sd s else g sd s := (rfl)
@[simp] theorem e_ifE (c : ST) (f g : SE) : ifE c f g sd s = (c sd s).bind (kIfE f g sd) := (rfl)
def kNeg : D → HS → Res D := fun x s => match x with
  | .int i => .ok (.int (-i)) s
  | _ => .bad
@[simp] theorem k_Neg (i : Int) : kNeg (.int i) s = .ok (.int (-i)) s := (rfl)
@[simp] theorem e_neg (f : SE) : negE f sd s = (f sd s).bind kNeg := (rfl)
def kCh3 (o2 : D → D → HS → Res D) (k : SE) (sd : Sl) (y : D) : D → HS → Res D
  | .bl true, s => (k sd s).bind (o2 y)
  | .bl false, s => .ok (.bl false) s
  | _, _ => .bad
@[simp] theorem k_Ch3 (o2 : D → D → HS → Res D) (k : SE) (y : D) (b : Bool) : kCh3 o2 k sd y (.bl b) s = if b = true then (k sd s).bind (o2 y) else .ok (.bl false) s := by cases b <;> rfl
def kCh2 (o1 o2 : D → D → HS → Res D) (k : SE) (sd : Sl) (x y : D) (s : HS) : Res D := (o1 x y s).bind (kCh3 o2 k sd y)
@[simp] theorem k_Ch2 (o1 o2 : D → D → HS → Res D) (k : SE) (x y : D) : kCh2 o1 o2 k sd x y s = (o1 x y s).bind (kCh3 o2 k sd y) := (rfl)
def kCh1 (o1 o2 : D → D → HS → Res D) (g k : SE) (sd : Sl) (x : D) (s : HS) : Res D := (g sd s).bind (kCh2 o1 o2 k sd x)
@[simp] theorem k_Ch1 (o1 o2 : D → D → HS → Res D) (g k : SE) (x : D) : kCh1 o1 o2 g k sd x s = (g sd s).bind (kCh2 o1 o2 k sd x) := (rfl)
@[simp] theorem e_chE (o1 o2 : D → D → HS → Res D) (f g k : SE) : chE o1 o2 f g k sd s = (f sd s).bind (kCh1 o1 o2 g k sd) := by
  unfold chE kCh1 kCh2
  congr 1
  funext x t
  congr 1
  funext y t
  congr 1
  funext z t
  cases z <;> first | rfl | (rename_i b; cases b <;> rfl)
def kIx3 (sd : Sl) (d x k : D) (s : HS) : SR := match oSet x k d s with
  | some s4 => .nx sd s4
  | none => .bad
@[simp] theorem k_Ix3 (d x k : D) : kIx3 sd d x k s = match oSet x k d s with
  | some s4 => .nx sd s4
  | none => .bad := (rfl)
def kIx2 (i : SE) (sd : Sl) (d x : D) (s : HS) : SR := (i sd s).bs sd (kIx3 sd d x)
@[simp] theorem k_Ix2 (i : SE) (d x : D) : kIx2 i sd d x s = (i sd s).bs sd (kIx3 sd d x) := (rfl)
def kIx1 (o i : SE) (sd : Sl) (d : D) (s : HS) : SR := (o sd s).bs sd (kIx2 i sd d)
@[simp] theorem k_Ix1 (o i : SE) (d : D) : kIx1 o i sd d s = (o sd s).bs sd (kIx2 i sd d) := (rfl)
@[simp] theorem e_setIx (o i v : SE) : setIx o i v sd s = (v sd s).bs sd (kIx1 o i sd) := (rfl)
@[simp] theorem e_fld (c : String) (f : Str) (o : SE) : fld c f o sd s = (o sd s).bind (oGetF c f) := (rfl)
theorem o_getF {n : Nat} {c : String} {fs : List (Str × D)} (h : s.h n = some (.ins c fs)) (f : Str) : oGetF c f (.ref n) s = match fs.lookup f with
  | some d => .ok d s
  | none => .bad := by
  unfold oGetF; simp only [h, if_true]
  try (cases List.lookup f fs <;> rfl)
def kF2 (c : String) (f : Str) (sd : Sl) (d : D) : D → HS → SR := fun x s => match x with
  | .ref n => match s.h n with
    | some (.ins c' fs) => if c' = c ∧ fs.length < 1000 then .nx sd (s.put n (.ins c (putD f d fs))) else .bad
    | _ => .bad
  | _ => .bad
theorem k_F2 {c : String} {fs : List (Str × D)} {n : Nat} (h : s.h n = some (.ins c fs)) (f : Str) (d : D) : kF2 c f sd d (.ref n) s = if fs.length < 1000 then .nx sd (s.put n (.ins c (putD f d fs))) else .bad := by
  unfold kF2; simp only [h, true_and]
def kF1 (c : String) (f : Str) (o : SE) (sd : Sl) (d : D) (s : HS) : SR := (o sd s).bs sd (kF2 c f sd d)
@[simp] theorem k_F1 (c : String) (f : Str) (o : SE) (d : D) : kF1 c f o sd d s = (o sd s).bs sd (kF2 c f sd d) := (rfl)
@[simp] theorem e_setF (c : String) (f : Str) (o v : SE) : setF c f o v sd s = (v sd s).bs sd (kF1 c f o sd) := (rfl)
def kUn (is : List Nat) (sd : Sl) : D → HS → SR := fun x s => match x with
  | .tup ds => if ds.length = is.length then .nx (setAll is ds sd) s else .bad
  | _ => .bad
@[simp] theorem k_Un (is : List Nat) (ds : List D) : kUn is sd (.tup ds) s = if ds.length = is.length then .nx (setAll is ds sd) s else .bad := (rfl)
@[simp] theorem e_unpS (is : List Nat) (f : SE) : unpS is f sd s = (f sd s).bs sd (kUn is sd) := (rfl)
def kUnL (is : List Nat) (sd : Sl) (x : D) (s : HS) : SR := match getL s x with
  | some ds => if ds.length = is.length then .nx (setAll is ds sd) s else .bad
  | none => .bad
@[simp] theorem k_UnL (is : List Nat) (x : D) : kUnL is sd x s = match getL s x with
  | some ds => if ds.length = is.length then .nx (setAll is ds sd) s else .bad
  | none => .bad := (rfl)
@[simp] theorem e_unpL (is : List Nat) (f : SE) : unpL is f sd s = (f sd s).bs sd (kUnL is sd) := (rfl)
def kSl2 (b : Bool) (hi : SO) (sd : Sl) (x : D) (l : Option Int) (s : HS) : Res D := (hi sd s).bind (oSl b x l)
@[simp] theorem k_Sl2 (b : Bool) (hi : SO) (x : D) (l : Option Int) : kSl2 b hi sd x l s = (hi sd s).bind (oSl b x l) := (rfl)
def kSl1 (b : Bool) (lo hi : SO) (sd : Sl) (x : D) (s : HS) : Res D := (lo sd s).bind (kSl2 b hi sd x)
@[simp] theorem k_Sl1 (b : Bool) (lo hi : SO) (x : D) : kSl1 b lo hi sd x s = (lo sd s).bind (kSl2 b hi sd x) := (rfl)
@[simp] theorem e_slE (b : Bool) (f : SE) (lo hi : SO) : slE b f lo hi sd s = (f sd s).bind (kSl1 b lo hi sd) := (rfl)
def kRev (b : Bool) (x : D) (s : HS) : Res D := match getL s x with
  | some ds => mkL b ds.reverse s
  | none => .bad
@[simp] theorem k_Rev (b : Bool) (x : D) : kRev b x s = match getL s x with
  | some ds => mkL b ds.reverse s
  | none => .bad := (rfl)
@[simp] theorem e_revE (b : Bool) (f : SE) : revE b f sd s = (f sd s).bind (kRev b) := (rfl)
@[simp] theorem e_noP : noP sd s = .ok none s := (rfl)
def kSome : D → HS → Res (Option Int) := fun x s => match x with
  | .int i => .ok (some i) s
  | _ => .bad
@[simp] theorem k_Some (i : Int) : kSome (.int i) s = .ok (some i) s := (rfl)
@[simp] theorem e_someP (f : SE) : someP f sd s = (f sd s).bind kSome := (rfl)
def kM1 (g : SA) (op : D → List D → HS → Res D) (sd : Sl) (x : D) (s : HS) : Res D := match getL s x with
  | some _ => (g sd s).bind (op x)
  | none => .bad
@[simp] theorem k_M1 (g : SA) (op : D → List D → HS → Res D) (x : D) : kM1 g op sd x s = match getL s x with
  | some _ => (g sd s).bind (op x)
  | none => .bad := (rfl)
@[simp] theorem e_mth (f : SE) (g : SA) (op : D → List D → HS → Res D) : mth f g op sd s = (f sd s).bind (kM1 g op sd) := (rfl)
noncomputable def kFor (t : TgD) (b : SS) (sd : Sl) (r : Src) (s : HS) : SR := forL r t b r.ds sd s
@[simp] theorem k_For (t : TgD) (b : SS) (r : Src) : kFor t b sd r s = forL r t b r.ds sd s := (rfl)
@[simp] theorem e_forS (src : SI) (t : TgD) (b : SS) : forS src t b sd s = (src sd s).bs sd (kFor t b sd) := (rfl)
def kItL (x : D) (s : HS) : Res Src := match srcL s x with
  | some (ds, l) => .ok ⟨ds, l⟩ s
  | none => .bad
@[simp] theorem k_ItL (x : D) : kItL x s = match srcL s x with
  | some (ds, l) => .ok ⟨ds, l⟩ s
  | none => .bad := (rfl)
@[simp] theorem e_itL (f : SE) : itL f sd s = (f sd s).bind kItL := (rfl)
def kItT : D → HS → Res Src := fun x s => match x with
  | .tup ds => .ok ⟨ds, []⟩ s
  | _ => .bad
@[simp] theorem k_ItT (ds : List D) : kItT (.tup ds) s = .ok ⟨ds, []⟩ s := (rfl)
@[simp] theorem e_itT (f : SE) : itT f sd s = (f sd s).bind kItT := (rfl)
def kR1 : List D → HS → Res Src := fun x s => match x with
  | [.int j] => if -(2 ^ 62) ≤ j ∧ j < 2 ^ 62 then .ok ⟨rngD 0 j.toNat, []⟩ s else .bad
  | _ => .bad
theorem small62 {j : Int} (h : -16777216 ≤ j ∧ j ≤ 16777216) : -(2 ^ 62) ≤ j ∧ j < 2 ^ 62 := ⟨Int.le_trans (by decide) h.1, Int.lt_of_le_of_lt h.2 (by decide)⟩
@[simp] theorem k_R1 (j : Int) (h : -16777216 ≤ j ∧ j ≤ 16777216) : kR1 [.int j] s = .ok ⟨rngD 0 j.toNat, []⟩ s := if_pos (small62 h)
@[simp] theorem e_itR1 (g : SA) : itR1 g sd s = (g sd s).bind kR1 := (rfl)
def kR2 : List D → HS → Res Src := fun x s => match x with
  | [.int i, .int j] => if -(2 ^ 62) ≤ i ∧ i < 2 ^ 62 ∧ -(2 ^ 62) ≤ j ∧ j < 2 ^ 62 then .ok ⟨rngD i (j - i).toNat, []⟩ s else .bad
  | _ => .bad
@[simp] theorem k_R2 (i j : Int) (h : -16777216 ≤ i ∧ i ≤ 16777216) (k : -16777216 ≤ j ∧ j ≤ 16777216) : kR2 [.int i, .int j] s = .ok ⟨rngD i (j - i).toNat, []⟩ s := if_pos ⟨(small62 h).1, (small62 h).2, (small62 k).1, (small62 k).2⟩
@[simp] theorem e_itR2 (g : SA) : itR2 g sd s = (g sd s).bind kR2 := (rfl)
def kZ : List D → HS → Res Src := fun x s => match x with
  | [x, y] => match srcL s x, srcL s y with
    | some (ds, l), some (es, m) => .ok ⟨zipD ds es, l ++ m⟩ s
    | _, _ => .bad
  | _ => .bad
@[simp] theorem k_Z (x y : D) : kZ [x, y] s = match srcL s x, srcL s y with
    | some (ds, l), some (es, m) => .ok ⟨zipD ds es, l ++ m⟩ s
    | _, _ => .bad := (rfl)
@[simp] theorem e_itZ (g : SA) : itZ g sd s = (g sd s).bind kZ := (rfl)
def kE : List D → HS → Res Src := fun x s => match x with
  | [x] => match srcL s x with
    | some (ds, l) => .ok ⟨enumD 0 ds, l⟩ s
    | none => .bad
  | _ => .bad
@[simp] theorem k_E (x : D) : kE [x] s = match srcL s x with
    | some (ds, l) => .ok ⟨enumD 0 ds, l⟩ s
    | none => .bad := (rfl)
@[simp] theorem e_itE (g : SA) : itE g sd s = (g sd s).bind kE := (rfl)
noncomputable def kC (al : Bool) (vs : List Nat) (t : TgD) (tt : ST) (el : SE) (sd : Sl) (r : Src) (s : HS) : Res D := (compL r t tt el (wipeD sd vs) r.ds [] s).bind (mkL al)
@[simp] theorem k_C (al : Bool) (vs : List Nat) (t : TgD) (tt : ST) (el : SE) (r : Src) : kC al vs t tt el sd r s = (compL r t tt el (wipeD sd vs) r.ds [] s).bind (mkL al) := (rfl)
@[simp] theorem e_comp (al : Bool) (src : SI) (vs : List Nat) (t : TgD) (tt : ST) (el : SE) : compE al src vs t tt el sd s = (src sd s).bind (kC al vs t tt el sd) := (rfl)
@[simp] theorem e_yes : yesT sd s = .ok true s := (rfl)
def kMe2 (F : FN) (n : Nat) (ds : List D) (s : HS) : Res D := F (.ref n :: ds) s
@[simp] theorem k_Me2 (F : FN) (n : Nat) (ds : List D) : kMe2 F n ds s = F (.ref n :: ds) s := (rfl)
def kMe (c : String) (m : Str) (g : SA) (F : FN) (sd : Sl) : D → HS → Res D := fun x s => match x with
  | .ref n => match s.h n with
    | some (.ins c' fs) => if c' = c ∧ fs.lookup m = none then (g sd s).bind (kMe2 F n) else .bad
    | _ => .bad
  | _ => .bad
theorem k_Me {c : String} {fs : List (Str × D)} {n : Nat} (h : s.h n = some (.ins c fs)) (m : Str) (g : SA) (F : FN) (hm : fs.lookup m = none) : kMe c m g F sd (.ref n) s = (g sd s).bind (kMe2 F n) := by
  unfold kMe; simp only [h, hm, true_and, if_true]
@[simp] theorem e_meth (c : String) (m : Str) (fo : SE) (g : SA) (F : FN) : methE c m fo g F sd s = (fo sd s).bind (kMe c m g F sd) := (rfl)
def kMk2 (n : Nat) : Res D → Res D
  | .ok .non s => .ok (.ref n) s
  | _ => .bad
@[simp] theorem k_Mk2 (n : Nat) : kMk2 n (.ok .non s) = .ok (.ref n) s := (rfl)
def kMk (c : String) (F : FN) (ds : List D) (s : HS) : Res D := kMk2 s.n (F (.ref s.n :: ds) (s.new (.ins c [])))
@[simp] theorem k_Mk (c : String) (F : FN) (ds : List D) : kMk c F ds s = kMk2 s.n (F (.ref s.n :: ds) (s.new (.ins c []))) := (rfl)
@[simp] theorem e_make (c : String) (g : SA) (F : FN) : makE c g F sd s = (g sd s).bind (kMk c F) := (rfl)
@[simp] theorem e_rs (c : String) : rsS c sd s = .exc c sd s := (rfl)
def kTry (xs : List String) (sub : String → String → Bool) (hs : List (String × SS)) : SR → SR
  | .exc c sd s => if c ∈ xs then handle xs sub c hs sd s else .bad
  | r => r
section
variable {xs : List String} {sub : String → String → Bool} {hs : List (String × SS)}
@[simp] theorem k_Try_nx : kTry xs sub hs (.nx sd s) = .nx sd s := (rfl)
@[simp] theorem k_Try_ct : kTry xs sub hs (.ct sd s) = .ct sd s := (rfl)
@[simp] theorem k_Try_bk : kTry xs sub hs (.bk sd s) = .bk sd s := (rfl)
@[simp] theorem k_Try_rt (d : D) : kTry xs sub hs (.rt d s) = .rt d s := (rfl)
@[simp] theorem k_Try_exc (c : String) : kTry xs sub hs (.exc c sd s) = if c ∈ xs then handle xs sub c hs sd s else .bad := (rfl)
end
@[simp] theorem e_try (xs : List String) (sub : String → String → Bool) (body : SS) (hs : List (String × SS)) : tryS xs sub body hs sd s = kTry xs sub hs (body sd s) := by
  unfold tryS kTry
  cases body sd s <;> rfl
@[simp] theorem handle_nil (xs : List String) (sub : String → String → Bool) (c : String) : handle xs sub c [] sd s = .exc c sd s := (rfl)
def kHd : SR → SR
  | .exc _ _ _ => .bad
  | q => q
@[simp] theorem k_Hd_nx : kHd (.nx sd s) = .nx sd s := (rfl)
@[simp] theorem k_Hd_ct : kHd (.ct sd s) = .ct sd s := (rfl)
@[simp] theorem k_Hd_rt (d : D) : kHd (.rt d s) = .rt d s := (rfl)
@[simp] theorem handle_cons (xs : List String) (sub : String → String → Bool) (c h : String) (f : SS) (r : List (String × SS)) : handle xs sub c ((h, f) :: r) sd s = if h ∈ xs then (if sub c h = true then kHd (f sd s) else handle xs sub c r sd s) else .bad := by
  rw [handle]
  split
  · split
    · unfold kHd; cases f sd s <;> rfl
    · rfl
  · rfl
@[simp] theorem e_dnew : dnewE sd s = .ok (.ref s.n) (s.new (.dict [])) := (rfl)
def kDp3 (sd : Sl) (d x k : D) (s : HS) : SR := match x with
  | .ref n => match s.h n, keyOf k with
    | some (.dict kvs), some q => if kvs.length < sizeLine then .nx sd (s.put n (.dict (ptK kvs q d))) else .bad
    | _, _ => .bad
  | _ => .bad
theorem k_Dp3 {n : Nat} {kvs : List (Key × D)} (h : s.h n = some (.dict kvs)) (d k : D) : kDp3 sd d (.ref n) k s = match keyOf k with
    | some q => if kvs.length < sizeLine then .nx sd (s.put n (.dict (ptK kvs q d))) else .bad
    | none => .bad := by
  unfold kDp3; simp only [h]
  cases keyOf k <;> rfl
def kDp2 (i : SE) (sd : Sl) (d x : D) (s : HS) : SR := (i sd s).bs sd (kDp3 sd d x)
@[simp] theorem k_Dp2 (i : SE) (d x : D) : kDp2 i sd d x s = (i sd s).bs sd (kDp3 sd d x) := (rfl)
def kDp1 (o i : SE) (sd : Sl) (d : D) (s : HS) : SR := (o sd s).bs sd (kDp2 i sd d)
@[simp] theorem k_Dp1 (o i : SE) (d : D) : kDp1 o i sd d s = (o sd s).bs sd (kDp2 i sd d) := (rfl)
@[simp] theorem e_dputS (o i v : SE) : dputS o i v sd s = (v sd s).bs sd (kDp1 o i sd) := (rfl)
def kDg3 (x y w : D) (s : HS) : Res D := match getK s x, keyOf y with
    | some kvs, some q => .ok ((lkK kvs q).getD w) s
    | _, _ => .bad
@[simp] theorem k_Dg3 (x y w : D) : kDg3 x y w s = match getK s x, keyOf y with
    | some kvs, some q => .ok ((lkK kvs q).getD w) s
    | _, _ => .bad := (rfl)
def kDg2 (z : SE) (sd : Sl) (x y : D) (s : HS) : Res D := (z sd s).bind (kDg3 x y)
@[simp] theorem k_Dg2 (z : SE) (x y : D) : kDg2 z sd x y s = (z sd s).bind (kDg3 x y) := (rfl)
def kDg1 (k z : SE) (sd : Sl) (x : D) (s : HS) : Res D := match getK s x with
  | some _ => (k sd s).bind (kDg2 z sd x)
  | none => .bad
@[simp] theorem k_Dg1 (k z : SE) (x : D) : kDg1 k z sd x s = match getK s x with
  | some _ => (k sd s).bind (kDg2 z sd x)
  | none => .bad := (rfl)
@[simp] theorem e_dget2 (o k z : SE) : dget2E o k z sd s = (o sd s).bind (kDg1 k z sd) := (rfl)
def kDq2 (x y : D) (s : HS) : Res D := mutK x s fun n kvs => match keyOf y with
    | some q => match lkK kvs q with
      | some d => .ok d (s.put n (.dict (drK kvs q)))
      | none => .bad
    | none => .bad
theorem k_Dq2 {n : Nat} {kvs : List (Key × D)} (h : s.h n = some (.dict kvs)) (y : D) : kDq2 (.ref n) y s = match keyOf y with
    | some q => match lkK kvs q with
      | some d => .ok d (s.put n (.dict (drK kvs q)))
      | none => .bad
    | none => .bad := by
  unfold kDq2 mutK; simp only [h]
def kDq1 (k : SE) (sd : Sl) (x : D) (s : HS) : Res D := match getK s x with
  | some _ => (k sd s).bind (kDq2 x)
  | none => .bad
@[simp] theorem k_Dq1 (k : SE) (x : D) : kDq1 k sd x s = match getK s x with
  | some _ => (k sd s).bind (kDq2 x)
  | none => .bad := (rfl)
@[simp] theorem e_dpop1 (o k : SE) : dpop1E o k sd s = (o sd s).bind (kDq1 k sd) := (rfl)
theorem getK_ref {n : Nat} {kvs : List (Key × D)} (h : s.h n = some (.dict kvs)) : getK s (.ref n) = some kvs := by simp only [getK, h]
theorem o_dget {n : Nat} {kvs : List (Key × D)} (h : s.h n = some (.dict kvs)) (k : D) : oDGet (.ref n) k s = match keyOf k with
  | some q => match lkK kvs q with
    | some d => .ok d s
    | none => .bad
  | none => .bad := by
  unfold oDGet; rw [getK_ref h]
  cases keyOf k <;> rfl
theorem o_din {neg : Bool} {n : Nat} {kvs : List (Key × D)} (h : s.h n = some (.dict kvs)) (k : D) : oDIn neg k (.ref n) s = match keyOf k with
  | some q => .ok (.bl ((lkK kvs q).isSome != neg)) s
  | none => .bad := by
  unfold oDIn; rw [getK_ref h]
  cases keyOf k <;> rfl
@[simp] theorem key_int (i : Int) : keyOf (.int i) = some (.inl i) := (rfl)
@[simp] theorem key_str (x : Str) : keyOf (.str x) = some (.inr x) := (rfl)
def kDs (ps : List (Key × D)) (s : HS) : Res D := if ps.length ≤ 15 then .ok (.ref s.n) (s.new (.dict (mgK [] ps))) else .bad
@[simp] theorem k_Ds (ps : List (Key × D)) : kDs ps s = if ps.length ≤ 15 then .ok (.ref s.n) (s.new (.dict (mgK [] ps))) else .bad := (rfl)
@[simp] theorem e_disp (l : List (SE × SE)) : dispE l sd s = (dispL l sd s).bind kDs := (rfl)
@[simp] theorem e_dispL0 : dispL [] sd s = .ok [] s := (rfl)
def kDl3 (x y : D) (ps : List (Key × D)) (s : HS) : Res (List (Key × D)) := match keyOf x with
    | some q => .ok ((q, y) :: ps) s
    | none => .bad
@[simp] theorem k_Dl3 (x y : D) (ps : List (Key × D)) : kDl3 x y ps s = match keyOf x with
    | some q => .ok ((q, y) :: ps) s
    | none => .bad := (rfl)
def kDl2 (r : List (SE × SE)) (sd : Sl) (x y : D) (s : HS) : Res (List (Key × D)) := (dispL r sd s).bind (kDl3 x y)
@[simp] theorem k_Dl2 (r : List (SE × SE)) (x y : D) : kDl2 r sd x y s = (dispL r sd s).bind (kDl3 x y) := (rfl)
def kDl1 (v : SE) (r : List (SE × SE)) (sd : Sl) (x : D) (s : HS) : Res (List (Key × D)) := (v sd s).bind (kDl2 r sd x)
@[simp] theorem k_Dl1 (v : SE) (r : List (SE × SE)) (x : D) : kDl1 v r sd x s = (v sd s).bind (kDl2 r sd x) := (rfl)
@[simp] theorem e_dispL1 (k v : SE) (r : List (SE × SE)) : dispL ((k, v) :: r) sd s = (k sd s).bind (kDl1 v r sd) := (rfl)
@[simp] theorem e_body (n : Nat) (f : SS) (ds : List D) : bodyD n f ds s = (f (ds.map some ++ List.replicate (n - ds.length) none) s).res := (rfl)
theorem e_call {n : Nat} {F : FN} {ds : List D} (h : ds.length = n) : callD n F ds s = F ds s := if_pos h
@[simp] theorem e_call1 {F : FN} {a : D} : callD 1 F [a] s = F [a] s := (rfl)
@[simp] theorem e_call2 {F : FN} {a b : D} : callD 2 F [a, b] s = F [a, b] s := (rfl)
@[simp] theorem e_call3 {F : FN} {a b c : D} : callD 3 F [a, b, c] s = F [a, b, c] s := (rfl)
@[simp] theorem e_call4 {F : FN} {a b c d : D} : callD 4 F [a, b, c, d] s = F [a, b, c, d] s := (rfl)
@[simp] theorem e_call5 {F : FN} {a b c d e : D} : callD 5 F [a, b, c, d, e] s = F [a, b, c, d, e] s := (rfl)
@[simp] theorem e_call6 {F : FN} {a b c d e f : D} : callD 6 F [a, b, c, d, e, f] s = F [a, b, c, d, e, f] s := (rfl)

/-! ### operators -/
@[simp] theorem o_add (b : Bool) (i j : Int) : oAdd b (.int i) (.int j) s = .ok (.int (i + j)) s := (rfl)
@[simp] theorem o_sub (i j : Int) : oSub (.int i) (.int j) s = .ok (.int (i - j)) s := if_pos (e := Res.bad) trivial
theorem o_mul' (b : Bool) (i j : Int) (h : CMul i j) : oMul b (.int i) (.int j) s = .ok (.int (i * j)) s := if_pos h
@[simp] theorem o_mul (b : Bool) (i j : Int) (h : (-(2 ^ 64) < i ∧ i < 2 ^ 64) ∨ (-(2 ^ 64) < j ∧ j < 2 ^ 64)) : oMul b (.int i) (.int j) s = .ok (.int (i * j)) s := if_pos h
@[simp] theorem o_mod (i j : Int) (h : 0 < j) : oMod (.int i) (.int j) s = .ok (.int (i % j)) s := if_pos (e := Res.bad) h
@[simp] theorem o_fdiv (i j : Int) (h : 0 < j ∧ j < 2 ^ 62) : oFdiv (.int i) (.int j) s = .ok (.int (i / j)) s := if_pos (e := Res.bad) (wide_div (b := 62) h.1 (by omega) (by decide) (by decide))
@[simp] theorem o_lt (i j : Int) : oLt (.int i) (.int j) s = .ok (.bl (decide (i < j))) s := if_pos (e := Res.bad) trivial
@[simp] theorem o_le (i j : Int) : oLe (.int i) (.int j) s = .ok (.bl (decide (i ≤ j))) s := if_pos (e := Res.bad) trivial
@[simp] theorem o_gt (i j : Int) : oGt (.int i) (.int j) s = .ok (.bl (decide (j < i))) s := if_pos (e := Res.bad) trivial
@[simp] theorem o_ge (i j : Int) : oGe (.int i) (.int j) s = .ok (.bl (decide (j ≤ i))) s := if_pos (e := Res.bad) trivial
@[simp] theorem o_opI {g : Int → Int → D} (i j : Int) : opI (fun _ _ => True) g (.int i) (.int j) s = .ok (g i j) s := if_pos (e := Res.bad) trivial
@[simp] theorem o_pow18 : oPow (.int 10) (.int 18) s = .ok (.int 1000000000000000000) s := if_pos (e := Res.bad) (c := CPow 10 18) (by decide)
@[simp] theorem o_pow9 : oPow (.int 10) (.int 9) s = .ok (.int 1000000000) s := if_pos (e := Res.bad) (c := CPow 10 9) (by decide)
@[simp] theorem o_pow6 : oPow (.int 10) (.int 6) s = .ok (.int 1000000) s := if_pos (e := Res.bad) (c := CPow 10 6) (by decide)
@[simp] theorem o_pow12 : oPow (.int 10) (.int 12) s = .ok (.int 1000000000000) s := if_pos (e := Res.bad) (c := CPow 10 12) (by decide)
theorem o_pow60 : oPow (.int 10) (.int 60) s = .ok (.int (10 ^ 60)) s := if_pos (e := Res.bad) (c := CPow 10 60) (by decide)
@[simp] theorem toP_int (n : Nat) (i : Int) : toP n s (.int i) = some (.int i) := by cases n <;> rfl
@[simp] theorem toP_bl (n : Nat) (i : Bool) : toP n s (.bl i) = some (.bool i) := by cases n <;> rfl
@[simp] theorem toP_non (n : Nat) : toP n s .non = some .none := by cases n <;> rfl
theorem toP_str (n : Nat) (x : Str) : toP n s (.str x) = if PyData.strOk x = true then some (.str x) else none := by cases n <;> rfl
theorem strOk_of (x : String) : PyData.strOk (Str.ofString x) = true := by
  unfold PyData.strOk
  rw [Str.ofString_eq_toList]
  simp
  intro c hc
  have := c.valid
  simp only [UInt32.isValidChar, Nat.isValidChar] at this
  show c.val.toNat < 1114112
  omega
@[simp] theorem toP_lit (n : Nat) (x : String) : toP n s (.str (Str.ofString x)) = some (.str (Str.ofString x)) := by rw [toP_str, if_pos (strOk_of x)]
@[simp] theorem toP_tup (n : Nat) (ds : List D) : toP (n + 1) s (.tup ds) = (allP (toP n s) ds).map .tuple := (rfl)
@[simp] theorem toP_lst (n : Nat) (ds : List D) : toP (n + 1) s (.lst ds) = (allP (toP n s) ds).map .list := (rfl)
@[simp] theorem toP_scr (n : Nat) (ds : List D) : toP (n + 1) s (.scr ds) = (allP (toP n s) ds).map .list := (rfl)
theorem toP_ref (n k : Nat) {ds : List D} (h : s.h k = some (.lst ds)) : toP (n + 1) s (.ref k) = (allP (toP n s) ds).map .list := by
  show (match s.h k with
    | some (.lst ds) => (allP (toP n s) ds).map PyData.list
    | _ => none) = _
  rw [h]
@[simp] theorem allP_nil {α β : Type} (f : α → Option β) : allP f [] = some [] := (rfl)
@[simp] theorem allP_cons {α β : Type} (f : α → Option β) (d : α) (ds : List α) : allP f (d :: ds) = (f d).bind fun p => (allP f ds).map fun ps => p :: ps := (rfl)
theorem o_eq {neg : Bool} {x y : D} {p q : PyData} (h1 : toP 8 s x = some p) (h2 : toP 8 s y = some q) : oEq neg x y s = .ok (.bl (PyData.eqv p q != neg)) s := by unfold oEq; rw [h1, h2]
@[simp] theorem o_eqI (neg : Bool) (i j : Int) : oEq neg (.int i) (.int j) s = .ok (.bl ((i == j) != neg)) s := by rw [o_eq (toP_int 8 i) (toP_int 8 j)]; rfl
@[simp] theorem o_eqB (neg : Bool) (i j : Bool) : oEq neg (.bl i) (.bl j) s = .ok (.bl ((i == j) != neg)) s := by rw [o_eq (toP_bl 8 i) (toP_bl 8 j)]; rfl
@[simp] theorem o_ixT (ds : List D) (i : Int) : oIx (.tup ds) (.int i) s = match atI ds i with
  | some d => .ok d s
  | none => .bad := (rfl)
@[simp] theorem o_ixL (ds : List D) (i : Int) : oIx (.lst ds) (.int i) s = match atI ds i with
  | some d => .ok d s
  | none => .bad := (rfl)
@[simp] theorem o_ixS (ds : List D) (i : Int) : oIx (.scr ds) (.int i) s = match atI ds i with
  | some d => .ok d s
  | none => .bad := (rfl)
theorem o_ixR {n : Nat} {ds : List D} (h : s.h n = some (.lst ds)) (i : Int) : oIx (.ref n) (.int i) s = match atI ds i with
  | some d => .ok d s
  | none => .bad := by
  show (match getL s (.ref n) with
    | some ds => match atI ds i with
      | some d => Res.ok d s
      | none => .bad
    | none => .bad) = _
  simp only [getL, h]
@[simp] theorem getL_lst (ds : List D) : getL s (.lst ds) = some ds := (rfl)
@[simp] theorem getL_scr (ds : List D) : getL s (.scr ds) = some ds := (rfl)
theorem getL_ref {n : Nat} {ds : List D} (h : s.h n = some (.lst ds)) : getL s (.ref n) = some ds := by simp only [getL, h]
@[simp] theorem getR_lst (ds : List D) : getR s (.lst ds) = some ds := (rfl)
theorem getR_ref {n : Nat} {ds : List D} (h : s.h n = some (.lst ds)) : getR s (.ref n) = some ds := by simp only [getR, h]
@[simp] theorem srcL_lst (ds : List D) : srcL s (.lst ds) = some (ds, []) := (rfl)
@[simp] theorem srcL_scr (ds : List D) : srcL s (.scr ds) = some (ds, []) := (rfl)
theorem srcL_ref {n : Nat} {ds : List D} (h : s.h n = some (.lst ds)) : srcL s (.ref n) = some (ds, [(n, .lst ds)]) := by simp only [srcL, h]
theorem size_big {n : Nat} (h : n ≤ 16777216) : n ≤ sizeLine := by rw [sizeLine_eq]; exact h
@[simp] theorem mkL_f (ds : List D) (h : ds.length ≤ 16777216) : mkL false ds s = .ok (.lst ds) s := by
  unfold mkL; rw [if_pos (size_big h), if_neg (by decide)]
@[simp] theorem mkL_t (ds : List D) (h : ds.length ≤ 16777216) : mkL true ds s = .ok (.ref s.n) (s.new (.lst ds)) := by
  unfold mkL; rw [if_pos (size_big h), if_pos rfl]
@[simp] theorem mkT_ (ds : List D) (h : ds.length ≤ 16777216) : mkT ds s = .ok (.tup ds) s := if_pos (size_big h)
/-! ### the heap -/
@[simp] theorem put_same {n : Nat} {o : DO} : (s.put n o).h n = some o := if_pos rfl
theorem put_ne {n m : Nat} {o : DO} (h : m ≠ n) : (s.put n o).h m = s.h m := if_neg h
@[simp] theorem put_n {n : Nat} {o : DO} : (s.put n o).n = s.n := (rfl)
@[simp] theorem new_same {o : DO} : (s.new o).h s.n = some o := if_pos rfl
theorem new_ne {m : Nat} {o : DO} (h : m ≠ s.n) : (s.new o).h m = s.h m := if_neg h
@[simp] theorem new_n {o : DO} : (s.new o).n = s.n + 1 := (rfl)
@[simp] theorem put_put {n : Nat} {o u : DO} : (s.put n o).put n u = s.put n u := by
  unfold HS.put; congr 1; funext b; dsimp only; split <;> rfl
@[simp] theorem o_setR {n : Nat} {ds : List D} {k : Int} {d : D} (h : s.h n = some (.lst ds)) : oSet (.ref n) (.int k) d s = (ixN ds.length k).map fun j => s.put n (.lst (ds.set j d)) := by
  unfold oSet; simp only [h]
end
/-! ### loops -/
theorem same_nil {ds : List D} {s : HS} : (⟨ds, []⟩ : Src).same s := fun _ h => (nomatch h)
theorem forL_ind {t : TgD} {b : SS} {r : Src} (I : List D → Sl → HS → Prop) (hs : ∀ ds sd s, I ds sd s → r.same s) (hb : ∀ d rest sd s, I (d :: rest) sd s → ∃ sd1, t sd d = some sd1 ∧ ∃ sd2 s2, (b sd1 s = .nx sd2 s2 ∨ b sd1 s = .ct sd2 s2) ∧ I rest sd2 s2) :
    ∀ (ds : List D) (sd : Sl) (s : HS), I ds sd s → ∃ sd' s', forL r t b ds sd s = .nx sd' s' ∧ I [] sd' s'
  | [], sd, s, h => ⟨sd, s, by unfold forL; rw [if_pos (hs _ _ _ h)], h⟩
  | d :: ds, sd, s, h => by
    obtain ⟨sd1, e1, sd2, s2, e2, h2⟩ := hb d ds sd s h
    obtain ⟨sd', s', e3, h3⟩ := forL_ind I hs hb ds sd2 s2 h2
    refine ⟨sd', s', ?_, h3⟩
    unfold forL
    rw [if_pos (hs _ _ _ h), e1]
    dsimp only
    rcases e2 with e2 | e2 <;> rw [e2] <;> exact e3
theorem compL_ind {t : TgD} {tt : ST} {el : SE} {sd0 : Sl} {r : Src} (I : List D → List D → HS → Prop) (hs : ∀ ds acc s, I ds acc s → r.same s)
    (hb : ∀ d rest acc s, I (d :: rest) acc s → ∃ sd1, t sd0 d = some sd1 ∧ ((∃ s1, tt sd1 s = .ok false s1 ∧ I rest acc s1) ∨ ∃ s1, tt sd1 s = .ok true s1 ∧ ∃ y s2, el sd1 s1 = .ok y s2 ∧ acc.length < 16777216 ∧ I rest (acc ++ [y]) s2)) :
    ∀ (ds acc : List D) (s : HS), I ds acc s → ∃ acc' s', compL r t tt el sd0 ds acc s = .ok acc' s' ∧ I [] acc' s'
  | [], acc, s, h => ⟨acc, s, by unfold compL; rw [if_pos (hs _ _ _ h)], h⟩
  | d :: ds, acc, s, h => by
    obtain ⟨sd1, e1, h1⟩ := hb d ds acc s h
    rcases h1 with ⟨s1, e2, h2⟩ | ⟨s1, e2, y, s2, e3, hl, h2⟩
    · obtain ⟨acc', s', e4, h4⟩ := compL_ind I hs hb ds acc s1 h2
      refine ⟨acc', s', ?_, h4⟩
      unfold compL
      rw [if_pos (hs _ _ _ h), e1]
      dsimp only
      rw [e2]
      exact e4
    · obtain ⟨acc', s', e4, h4⟩ := compL_ind I hs hb ds (acc ++ [y]) s2 h2
      refine ⟨acc', s', ?_, h4⟩
      unfold compL
      rw [if_pos (hs _ _ _ h), e1]
      dsimp only
      rw [e2]
      dsimp only
      rw [e3]
      dsimp only
      rw [if_pos (by rw [sizeLine_eq]; exact hl)]
      exact e4
/-- a while: an invariant with a measure -/
theorem whS_ind {c : ST} {b : SS} (I : Nat → Sl → HS → Prop) (J : Sl → HS → Prop)
    (hb : ∀ m sd s, I m sd s → (∃ s1, c sd s = .ok false s1 ∧ J sd s1) ∨ ∃ s1, c sd s = .ok true s1 ∧ ∃ sd2 s2, (b sd s1 = .nx sd2 s2 ∨ b sd s1 = .ct sd2 s2) ∧ ∃ m', m' < m ∧ I m' sd2 s2) :
    ∀ (n m : Nat) (sd : Sl) (s : HS), m < n → I m sd s → ∃ sd' s', whS n c b sd s = .nx sd' s' ∧ J sd' s'
  | 0, m, sd, s, hn, h => absurd hn (Nat.not_lt_zero m)
  | n + 1, m, sd, s, hn, h => by
    rcases hb m sd s h with ⟨s1, e, j⟩ | ⟨s1, e, sd2, s2, e2, m', hm, h2⟩
    · refine ⟨sd, s1, ?_, j⟩
      show (c sd s).bs sd _ = _
      rw [e]; rfl
    · obtain ⟨sd', s', e3, j⟩ := whS_ind I J hb n m' sd2 s2 (by omega) h2
      refine ⟨sd', s', ?_, j⟩
      show (c sd s).bs sd _ = _
      rw [e, bs_ok, if_pos rfl]
      rcases e2 with e2 | e2 <;> rw [e2] <;> exact e3
end DL
namespace DL
open PySem PySem.Spec PyProof.Rows L2
theorem atI_some {α : Type} {ds : List α} {v : Int} (h0 : 0 ≤ v) (h : v < ds.length) : ∃ d, atI ds v = some d ∧ d ∈ ds := by
  have hl : v.toNat < ds.length := by omega
  refine ⟨ds[v.toNat], ?_, List.getElem_mem hl⟩
  unfold atI ixN
  rw [if_pos h0, if_pos h]
  simp
/-- an int of a list of ints, drawn -/
theorem atI_int {P : Int → Prop} {ns : List Int} {v : Int} (h0 : 0 ≤ v) (h : v < ns.length) (hp : ∀ n ∈ ns, P n) : ∃ n, atI (ns.map D.int) v = some (.int n) ∧ P n := by
  obtain ⟨d, e, hd⟩ := atI_some (ds := ns.map D.int) h0 (by simpa using h)
  obtain ⟨n, hn, rfl⟩ := List.mem_map.mp hd
  exact ⟨n, e, hp n hn⟩
end DL
namespace DL
open PySem PySem.Spec PyProof.Rows L2
@[simp] theorem o_addL (b : Bool) (xs ys : List D) (s : HS) : oAdd b (.lst xs) (.lst ys) s = mkL b (xs ++ ys) s := (rfl)
@[simp] theorem o_addT (b : Bool) (xs ys : List D) (s : HS) : oAdd b (.tup xs) (.tup ys) s = if xs ≠ [] ∧ ys ≠ [] then mkT (xs ++ ys) s else .bad := (rfl)
theorem cut_to (xs : List D) (k : Int) (h : 0 ≤ k) : DL.cutD xs none (some k) = xs.take k.toNat := by
  unfold DL.cutD HT.sIx
  dsimp only
  rw [List.drop_zero]
  split
  · omega
  · rw [Nat.sub_zero]
    by_cases q : xs.length ≤ k.toNat
    · rw [List.take_of_length_le q, List.take_of_length_le (by omega)]
    · congr 1; omega
theorem cut_from (xs : List D) (k : Int) (h : 0 ≤ k) : DL.cutD xs (some k) none = xs.drop k.toNat := by
  unfold DL.cutD HT.sIx
  dsimp only
  split
  · omega
  · by_cases q : xs.length ≤ k.toNat
    · rw [List.drop_of_length_le q, List.drop_of_length_le (by omega)]; simp
    · rw [show min k.toNat xs.length = k.toNat by omega]
      exact List.take_of_length_le (by simp)
theorem cut_mid (xs : List D) (i j : Int) (h : 0 ≤ i) (h2 : 0 ≤ j) : DL.cutD xs (some i) (some j) = (xs.drop i.toNat).take (j.toNat - i.toNat) := by
  unfold DL.cutD HT.sIx
  dsimp only
  split
  · omega
  · split
    · omega
    · by_cases q : xs.length ≤ i.toNat
      · rw [List.drop_of_length_le q, List.drop_of_length_le (by omega)]; simp
      · rw [show min i.toNat xs.length = i.toNat by omega]
        by_cases q2 : xs.length ≤ j.toNat
        · rw [List.take_of_length_le (by simp; omega), List.take_of_length_le (by simp; omega)]
        · congr 1; omega
theorem cut_all (xs : List D) : DL.cutD xs none none = xs := by
  unfold DL.cutD HT.sIx
  dsimp only
  simp
@[simp] theorem o_slL (b : Bool) (xs : List D) (l u : Option Int) (s : HS) : oSl b (.lst xs) l u s = mkL b (DL.cutD xs l u) s := (rfl)
@[simp] theorem o_slS (b : Bool) (xs : List D) (l u : Option Int) (s : HS) : oSl b (.scr xs) l u s = mkL b (DL.cutD xs l u) s := (rfl)
end DL
namespace DL
open PySem PySem.Spec PyProof.Rows L2
/-! ### `in` over ints -/
@[simp] theorem o_inL (neg : Bool) (x : Int) (ys : List Int) (s : HS) : oIn neg (.int x) (.lst (ys.map D.int)) s = .ok (.bl (decide (x ∈ ys) != neg)) s := by
  have h : allP (toP 7 s) (ys.map D.int) = some (ys.map PyData.int) := by
    induction ys with
    | nil => rfl
    | cons y ys ih => rw [List.map_cons, allP_cons, ih]; simp
  show (match toP 8 s (.int x), toP 8 s (.lst (ys.map D.int)) with
    | some p, some (.list qs) => Res.ok (D.bl ((qs.any fun z => PyData.eqv z p) != neg)) s
    | _, _ => .bad) = _
  rw [toP_int, toP_lst, h]
  show Res.ok _ _ = _
  congr 3
  rw [List.any_map]
  induction ys with
  | nil => simp
  | cons y ys ih =>
    rw [List.any_cons]
    rw [ih (by
      have := h
      rw [List.map_cons, allP_cons] at this
      cases e : allP (toP 7 s) (ys.map D.int) with
      | none => rw [e] at this; simp at this
      | some z => rw [e] at this; simpa using this)]
    have e : ((fun z => PyData.eqv z (PyData.int x)) ∘ PyData.int) y = decide (y = x) := by
      show (y == x) = _
      by_cases q : y = x <;> simp [q]
    rw [e]
    by_cases q : y = x
    · simp [q]
    · have q2 : ¬ x = y := fun z => q z.symm
      simp [q, q2]
theorem o_in1 (neg : Bool) (x a : Int) (s : HS) : oIn neg (.int x) (.lst [.int a]) s = .ok (.bl (decide (x ∈ [a]) != neg)) s := o_inL neg x [a] s
@[simp] theorem o_in2 (neg : Bool) (x a b : Int) (s : HS) : oIn neg (.int x) (.lst [.int a, .int b]) s = .ok (.bl (decide (x = a ∨ x = b) != neg)) s := by
  rw [show [D.int a, D.int b] = [a, b].map D.int from rfl, o_inL]; simp
@[simp] theorem o_in3 (neg : Bool) (x a b c : Int) (s : HS) : oIn neg (.int x) (.lst [.int a, .int b, .int c]) s = .ok (.bl (decide (x = a ∨ x = b ∨ x = c) != neg)) s := by
  rw [show [D.int a, D.int b, D.int c] = [a, b, c].map D.int from rfl, o_inL]; simp
/-! ### loops over ints -/
theorem forL_ints {t : TgD} {b : SS} {all : List D} (I : Sl → HS → Prop) (hb : ∀ c sd s, I sd s → ∃ sd1, t sd (.int c) = some sd1 ∧ ∃ sd2 s2, (b sd1 s = .nx sd2 s2 ∨ b sd1 s = .ct sd2 s2) ∧ I sd2 s2)
    (ds : List D) (sd : Sl) (s : HS) (hd : ∀ d ∈ ds, ∃ c, d = .int c) (h : I sd s) : ∃ sd' s', forL ⟨all, []⟩ t b ds sd s = .nx sd' s' ∧ I sd' s' := by
  obtain ⟨sd', s', e, _, h2⟩ := forL_ind (r := ⟨all, []⟩) (t := t) (b := b) (fun ds sd s => (∀ d ∈ ds, ∃ c, d = .int c) ∧ I sd s) (fun _ _ _ _ => same_nil) (by
    rintro d rest sd s ⟨hd, hi⟩
    obtain ⟨c, rfl⟩ := hd d List.mem_cons_self
    obtain ⟨sd1, e, sd2, s2, e2, h2⟩ := hb c sd s hi
    exact ⟨sd1, e, sd2, s2, e2, fun d h => hd d (List.mem_cons_of_mem _ h), h2⟩) ds sd s ⟨hd, h⟩
  exact ⟨sd', s', e, h2⟩
theorem ints_cons (a : Int) (ns : List Int) : ∀ d ∈ D.int a :: ns.map D.int, ∃ c, d = .int c := by
  intro d hd
  rcases List.mem_cons.mp hd with rfl | hd
  · exact ⟨a, rfl⟩
  · obtain ⟨c, _, rfl⟩ := List.mem_map.mp hd
    exact ⟨c, rfl⟩
/-- a loop over drawn ones of a list of ints, each with what it keeps to -/
theorem forL_mem {t : TgD} {b : SS} {all : List D} (P : Int → Prop) (I : Sl → HS → Prop) (hb : ∀ c sd s, P c → I sd s → ∃ sd1, t sd (.int c) = some sd1 ∧ ∃ sd2 s2, (b sd1 s = .nx sd2 s2 ∨ b sd1 s = .ct sd2 s2) ∧ I sd2 s2)
    (ns : List Int) (sd : Sl) (s : HS) (hd : ∀ n ∈ ns, P n) (h : I sd s) : ∃ sd' s', forL ⟨all, []⟩ t b (ns.map D.int) sd s = .nx sd' s' ∧ I sd' s' := by
  obtain ⟨sd', s', e, _, h2⟩ := forL_ind (r := ⟨all, []⟩) (t := t) (b := b) (fun ds sd s => (∀ d ∈ ds, ∃ c, d = .int c ∧ P c) ∧ I sd s) (fun _ _ _ _ => same_nil) (by
    rintro d rest sd s ⟨hd, hi⟩
    obtain ⟨c, rfl, hc⟩ := hd d List.mem_cons_self
    obtain ⟨sd1, e, sd2, s2, e2, h2⟩ := hb c sd s hc hi
    exact ⟨sd1, e, sd2, s2, e2, fun d h => hd d (List.mem_cons_of_mem _ h), h2⟩) (ns.map D.int) sd s ⟨fun d hd' => by
      obtain ⟨c, hc, rfl⟩ := List.mem_map.mp hd'
      exact ⟨c, rfl, hd c hc⟩, h⟩
  exact ⟨sd', s', e, h2⟩
theorem rngD_succ (k : Nat) (n : Nat) : rngD (k : Int) (n + 1) = .int (k : Int) :: rngD ((k + 1 : Nat) : Int) n := by
  unfold rngD
  rw [List.range_succ_eq_map, List.map_cons, List.map_map]
  simp
  intro a _
  omega
theorem rngD_zero (k : Int) : rngD k 0 = [] := (rfl)
/-- a loop over 0, 1, .. below n -/
theorem forL_rng {t : TgD} {b : SS} {all : List D} (I : Nat → Sl → HS → Prop) (hb : ∀ c sd s, I c sd s → ∃ sd1, t sd (.int (c : Int)) = some sd1 ∧ ∃ sd2 s2, (b sd1 s = .nx sd2 s2 ∨ b sd1 s = .ct sd2 s2) ∧ I (c + 1) sd2 s2) :
    ∀ (n k : Nat) (sd : Sl) (s : HS), I k sd s → ∃ sd' s', forL ⟨all, []⟩ t b (rngD (k : Int) n) sd s = .nx sd' s' ∧ I (k + n) sd' s'
  | 0, k, sd, s, h => ⟨sd, s, by show forL _ t b [] sd s = _; unfold forL; rw [if_pos same_nil], h⟩
  | n + 1, k, sd, s, h => by
    obtain ⟨sd1, e1, sd2, s2, e2, h2⟩ := hb k sd s h
    obtain ⟨sd', s', e3, h3⟩ := forL_rng (all := all) I hb n (k + 1) sd2 s2 h2
    refine ⟨sd', s', ?_, by rw [show k + (n + 1) = k + 1 + n by omega]; exact h3⟩
    rw [rngD_succ]
    unfold forL
    rw [if_pos same_nil, e1]
    dsimp only
    rcases e2 with e2 | e2 <;> rw [e2] <;> exact e3
end DL
end
section
namespace DL
open PySem PySem.Spec PyProof.Rows L2
noncomputable def f_stream : SS :=
  (seq (setS 1 (b2 (v_ 0) (c_ (.int 536870909)) oMod))
  (seq (setS 1 (b2 (b2 (b2 (b2 (b2 (v_ 1) (v_ 1) (oMul false)) (c_ (.int 536870909)) oMod) (b2 (v_ 1) (c_ (.int 7)) (oAdd false)) (oMul false)) (c_ (.int 13)) (oAdd false)) (c_ (.int 536870909)) oMod))
  (retS (lstE true (acons (v_ 0) (acons (v_ 1) (acons (bN (acons (b2 (v_ 0) (b2 (c_ (.int 10)) (c_ (.int 18)) oPow) oGe) anil) oInt) anil)))))))
noncomputable def F_stream : FN := bodyD 2 f_stream
noncomputable def f_take : SS :=
  (seq (ifS (tb (b2 (b2 (v_ 0) (c_ (.int 2)) oIx) (c_ (.int 1)) (oEq false))) (seq (setS 2 (b2 (b2 (v_ 0) (c_ (.int 0)) oIx) (v_ 1) oMod))
  (seq (setIx (v_ 0) (c_ (.int 0)) (b2 (b2 (v_ 0) (c_ (.int 0)) oIx) (v_ 1) oFdiv))
  (retS (v_ 2)))) skip)
  (seq (setIx (v_ 0) (c_ (.int 1)) (b2 (b2 (b2 (b2 (v_ 0) (c_ (.int 1)) oIx) (c_ (.int 7919)) (oAdd false)) (b2 (b2 (v_ 0) (c_ (.int 1)) oIx) (c_ (.int 104729)) (oAdd false)) (oMul false)) (c_ (.int 536870909)) oMod))
  (retS (b2 (b2 (b2 (b2 (b2 (v_ 0) (c_ (.int 1)) oIx) (c_ (.int 48271)) (oMul false)) (c_ (.int 11)) (oAdd false)) (c_ (.int 64)) oFdiv) (v_ 1) oMod))))
noncomputable def F_take : FN := bodyD 3 f_take
noncomputable def f_next_counter : SS :=
  (retS (b2 (b2 (v_ 0) (c_ (.int 1)) (oAdd false)) (b2 (v_ 1) (v_ 2) (oMul false)) oMod))
noncomputable def F_next_counter : FN := bodyD 3 f_next_counter
noncomputable def f_place_of : SS :=
  (retS (b2 (v_ 0) (v_ 1) oMod))
noncomputable def F_place_of : FN := bodyD 2 f_place_of
noncomputable def f_ahead_by : SS :=
  (retS (b2 (b2 (v_ 0) (v_ 1) oSub) (b2 (v_ 2) (v_ 3) (oMul false)) oMod))
noncomputable def F_ahead_by : FN := bodyD 4 f_ahead_by
end DL
end
section
/-! PU2: what a run ends in, slots by their number, loops, frames. -/
namespace DL
open PySem PySem.Spec PyProof.Rows L2
/-- a suite goes on, and so it stands then -/
def SR.Nx (Q : Sl → HS → Prop) : SR → Prop
  | .nx sd s => Q sd s
  | .ct sd s => Q sd s
  | _ => False
def Res.Ok {α : Type} (Q : α → HS → Prop) : Res α → Prop
  | .ok a s => Q a s
  | _ => False
section
variable {Q : Sl → HS → Prop} {sd : Sl} {s : HS}
@[simp] theorem Nx_nx : (SR.nx sd s).Nx Q = Q sd s := (rfl)
@[simp] theorem Nx_ct : (SR.ct sd s).Nx Q = Q sd s := (rfl)
@[simp] theorem Nx_rt (d : D) : (SR.rt d s).Nx Q = False := (rfl)
@[simp] theorem Nx_bk : (SR.bk sd s).Nx Q = False := (rfl)
@[simp] theorem Nx_exc (c : String) : (SR.exc c sd s).Nx Q = False := (rfl)
@[simp] theorem Nx_bad : SR.bad.Nx Q = False := (rfl)
theorem Nx_of {r : SR} (e : r = .nx sd s) (q : Q sd s) : r.Nx Q := by rw [e]; exact q
theorem SR.Nx.ex {r : SR} (h : r.Nx Q) : ∃ sd2 s2, (r = .nx sd2 s2 ∨ r = .ct sd2 s2) ∧ Q sd2 s2 := by
  cases r with
  | nx a b => exact ⟨a, b, .inl rfl, h⟩
  | ct a b => exact ⟨a, b, .inr rfl, h⟩
  | rt _ _ => exact h.elim
  | bk _ _ => exact h.elim
  | exc _ _ _ => exact h.elim
  | bad => exact h.elim
theorem SR.Nx.imp {r : SR} {Q' : Sl → HS → Prop} (h : r.Nx Q) (hi : ∀ sd s, Q sd s → Q' sd s) : r.Nx Q' := by
  cases r with
  | nx a b => exact hi _ _ h
  | ct a b => exact hi _ _ h
  | rt _ _ => exact h.elim
  | bk _ _ => exact h.elim
  | exc _ _ _ => exact h.elim
  | bad => exact h.elim
end
section
variable {α : Type} {Q : α → HS → Prop} {s : HS}
@[simp] theorem Ok_ok (a : α) : (Res.ok a s).Ok Q = Q a s := (rfl)
@[simp] theorem Ok_exc (c : String) : (Res.exc c s : Res α).Ok Q = False := (rfl)
@[simp] theorem Ok_bad : (Res.bad : Res α).Ok Q = False := (rfl)
theorem Res.Ok.ex {r : Res α} (h : r.Ok Q) : ∃ a s2, r = .ok a s2 ∧ Q a s2 := by
  cases r with
  | ok a s => exact ⟨a, s, rfl, h⟩
  | exc _ _ => exact h.elim
  | bad => exact h.elim
end
/-! ### slots -/
theorem slot_getElem? : ∀ (sd : Sl) (i : Nat), slot sd i = (sd[i]?).getD none
  | [], i => by simp [slot]
  | x :: r, 0 => by simp [slot]
  | x :: r, i + 1 => by simpa [slot] using slot_getElem? r i
@[simp] theorem slot_set {sd : Sl} {i j : Nat} {x : Option D} : slot (sd.set i x) j = if i = j ∧ i < sd.length then x else slot sd j := by
  rw [slot_getElem?, slot_getElem?]
  by_cases e : i = j
  · subst e
    by_cases l : i < sd.length
    · simp [l]
    · simp [l]
  · simp [e, List.getElem?_set_ne e]
@[simp] theorem setAll_nil (ds : List D) (sd : Sl) : setAll [] ds sd = sd := by cases ds <;> rfl
@[simp] theorem setAll_cons (i : Nat) (is : List Nat) (d : D) (ds : List D) (sd : Sl) : setAll (i :: is) (d :: ds) sd = setAll is ds (sd.set i (some d)) := (rfl)
@[simp] theorem tgN_ (i : Nat) (sd : Sl) (d : D) : tgN i sd d = some (sd.set i (some d)) := (rfl)
@[simp] theorem tgT_ (is : List Nat) (sd : Sl) (ds : List D) : tgT is sd (.tup ds) = if ds.length = is.length then some (setAll is ds sd) else none := (rfl)
@[simp] theorem wipe_nil (sd : Sl) : wipeD sd [] = sd := (rfl)
@[simp] theorem wipe_cons (sd : Sl) (v : Nat) (vs : List Nat) : wipeD sd (v :: vs) = (wipeD sd vs).set v none := (rfl)
/-! ### indices that are written -/
theorem atI_nat {α : Type} (ds : List α) (k : Nat) : atI ds (k : Int) = ds[k]? := by
  unfold atI ixN
  rw [if_pos (by omega)]
  by_cases h : (k : Int) < ds.length
  · rw [if_pos h]; rfl
  · rw [if_neg h, List.getElem?_eq_none (by omega)]; rfl
@[simp] theorem atI_0 {α : Type} (x0 : α) (r : List α) : atI (x0 :: r) 0 = some x0 := atI_nat _ 0
@[simp] theorem atI_1 {α : Type} (x0 x1 : α) (r : List α) : atI (x0 :: x1 :: r) 1 = some x1 := atI_nat _ 1
@[simp] theorem atI_2 {α : Type} (x0 x1 x2 : α) (r : List α) : atI (x0 :: x1 :: x2 :: r) 2 = some x2 := atI_nat _ 2
@[simp] theorem atI_3 {α : Type} (x0 x1 x2 x3 : α) (r : List α) : atI (x0 :: x1 :: x2 :: x3 :: r) 3 = some x3 := atI_nat _ 3
@[simp] theorem atI_4 {α : Type} (x0 x1 x2 x3 x4 : α) (r : List α) : atI (x0 :: x1 :: x2 :: x3 :: x4 :: r) 4 = some x4 := atI_nat _ 4
@[simp] theorem atI_5 {α : Type} (x0 x1 x2 x3 x4 x5 : α) (r : List α) : atI (x0 :: x1 :: x2 :: x3 :: x4 :: x5 :: r) 5 = some x5 := atI_nat _ 5
@[simp] theorem atI_6 {α : Type} (x0 x1 x2 x3 x4 x5 x6 : α) (r : List α) : atI (x0 :: x1 :: x2 :: x3 :: x4 :: x5 :: x6 :: r) 6 = some x6 := atI_nat _ 6
@[simp] theorem atI_7 {α : Type} (x0 x1 x2 x3 x4 x5 x6 x7 : α) (r : List α) : atI (x0 :: x1 :: x2 :: x3 :: x4 :: x5 :: x6 :: x7 :: r) 7 = some x7 := atI_nat _ 7
@[simp] theorem atI_8 {α : Type} (x0 x1 x2 x3 x4 x5 x6 x7 x8 : α) (r : List α) : atI (x0 :: x1 :: x2 :: x3 :: x4 :: x5 :: x6 :: x7 :: x8 :: r) 8 = some x8 := atI_nat _ 8
@[simp] theorem atI_9 {α : Type} (x0 x1 x2 x3 x4 x5 x6 x7 x8 x9 : α) (r : List α) : atI (x0 :: x1 :: x2 :: x3 :: x4 :: x5 :: x6 :: x7 :: x8 :: x9 :: r) 9 = some x9 := atI_nat _ 9
@[simp] theorem atI_10 {α : Type} (x0 x1 x2 x3 x4 x5 x6 x7 x8 x9 x10 : α) (r : List α) : atI (x0 :: x1 :: x2 :: x3 :: x4 :: x5 :: x6 :: x7 :: x8 :: x9 :: x10 :: r) 10 = some x10 := atI_nat _ 10
@[simp] theorem atI_11 {α : Type} (x0 x1 x2 x3 x4 x5 x6 x7 x8 x9 x10 x11 : α) (r : List α) : atI (x0 :: x1 :: x2 :: x3 :: x4 :: x5 :: x6 :: x7 :: x8 :: x9 :: x10 :: x11 :: r) 11 = some x11 := atI_nat _ 11
@[simp] theorem atI_12 {α : Type} (x0 x1 x2 x3 x4 x5 x6 x7 x8 x9 x10 x11 x12 : α) (r : List α) : atI (x0 :: x1 :: x2 :: x3 :: x4 :: x5 :: x6 :: x7 :: x8 :: x9 :: x10 :: x11 :: x12 :: r) 12 = some x12 := atI_nat _ 12
@[simp] theorem atI_13 {α : Type} (x0 x1 x2 x3 x4 x5 x6 x7 x8 x9 x10 x11 x12 x13 : α) (r : List α) : atI (x0 :: x1 :: x2 :: x3 :: x4 :: x5 :: x6 :: x7 :: x8 :: x9 :: x10 :: x11 :: x12 :: x13 :: r) 13 = some x13 := atI_nat _ 13
@[simp] theorem atI_last {α : Type} (ds : List α) : atI ds (-1) = ds[ds.length - 1]? := by
  unfold atI ixN
  rw [if_neg (by omega)]
  cases ds with
  | nil => simp
  | cons x r =>
    rw [if_pos (by simp; omega)]
    show (x :: r)[_]? = _
    congr 1
    simp only [List.length_cons]; omega
/-! ### loops -/
theorem forL_nx {t : TgD} {b : SS} {r : Src} (I : List D → Sl → HS → Prop) (hs : ∀ ds sd s, I ds sd s → r.same s) (hb : ∀ d rest sd s, I (d :: rest) sd s → ∃ sd1, t sd d = some sd1 ∧ (b sd1 s).Nx (I rest))
    (ds : List D) (sd : Sl) (s : HS) (h : I ds sd s) : ∃ sd' s', forL r t b ds sd s = .nx sd' s' ∧ I [] sd' s' :=
  forL_ind I hs (fun d rest sd s h => let ⟨sd1, e, q⟩ := hb d rest sd s h; ⟨sd1, e, q.ex⟩) ds sd s h
/-- over a list that no one changes -/
theorem forL_nx0 {t : TgD} {b : SS} {all : List D} (I : List D → Sl → HS → Prop) (hb : ∀ d rest sd s, I (d :: rest) sd s → ∃ sd1, t sd d = some sd1 ∧ (b sd1 s).Nx (I rest))
    (ds : List D) (sd : Sl) (s : HS) (h : I ds sd s) : ∃ sd' s', forL ⟨all, []⟩ t b ds sd s = .nx sd' s' ∧ I [] sd' s' :=
  forL_nx I (fun _ _ _ _ => same_nil) hb ds sd s h
/-- over ints that keep to P -/
theorem forL_each {t : TgD} {b : SS} {all : List D} (P : Int → Prop) (I : Sl → HS → Prop) (hb : ∀ c sd s, P c → I sd s → ∃ sd1, t sd (.int c) = some sd1 ∧ (b sd1 s).Nx I)
    (ds : List D) (sd : Sl) (s : HS) (hd : ∀ d ∈ ds, ∃ c, d = .int c ∧ P c) (h : I sd s) : ∃ sd' s', forL ⟨all, []⟩ t b ds sd s = .nx sd' s' ∧ I sd' s' := by
  obtain ⟨sd', s', e, _, q⟩ := forL_nx0 (all := all) (t := t) (b := b) (fun ds sd s => (∀ d ∈ ds, ∃ c, d = .int c ∧ P c) ∧ I sd s) (by
    rintro d rest sd s ⟨hd, hi⟩
    obtain ⟨c, rfl, hc⟩ := hd d List.mem_cons_self
    obtain ⟨sd1, e, q⟩ := hb c sd s hc hi
    exact ⟨sd1, e, q.imp fun _ _ z => ⟨fun d h => hd d (List.mem_cons_of_mem _ h), z⟩⟩) ds sd s ⟨hd, h⟩
  exact ⟨sd', s', e, q⟩
theorem ints_all {P : Int → Prop} {ns : List Int} (h : ∀ n ∈ ns, P n) : ∀ d ∈ ns.map D.int, ∃ c, d = .int c ∧ P c := fun d hd => by
  obtain ⟨c, hc, rfl⟩ := List.mem_map.mp hd
  exact ⟨c, rfl, h c hc⟩
/-- a loop over k, k + 1, .. -/
theorem forL_count {t : TgD} {b : SS} {all : List D} (I : Nat → Sl → HS → Prop) (N : Nat) (hb : ∀ c sd s, c < N → I c sd s → ∃ sd1, t sd (.int (c : Int)) = some sd1 ∧ (b sd1 s).Nx (I (c + 1))) :
    ∀ (n k : Nat) (sd : Sl) (s : HS), k + n = N → I k sd s → ∃ sd' s', forL ⟨all, []⟩ t b (rngD (k : Int) n) sd s = .nx sd' s' ∧ I N sd' s'
  | 0, k, sd, s, e, h => ⟨sd, s, by show forL _ t b [] sd s = _; unfold forL; rw [if_pos same_nil], by rw [← e]; exact h⟩
  | n + 1, k, sd, s, e, h => by
    obtain ⟨sd1, e1, q⟩ := hb k sd s (by omega) h
    obtain ⟨sd2, s2, e2, h2⟩ := q.ex
    obtain ⟨sd', s', e3, h3⟩ := forL_count (all := all) I N hb n (k + 1) sd2 s2 (by omega) h2
    refine ⟨sd', s', ?_, h3⟩
    rw [rngD_succ]
    unfold forL
    rw [if_pos same_nil, e1]
    dsimp only
    rcases e2 with e2 | e2 <;> rw [e2] <;> exact e3
theorem forL_upto {t : TgD} {b : SS} {all : List D} (I : Nat → Sl → HS → Prop) (N : Nat) (hb : ∀ c sd s, c < N → I c sd s → ∃ sd1, t sd (.int (c : Int)) = some sd1 ∧ (b sd1 s).Nx (I (c + 1))) (sd : Sl) (s : HS) (h : I 0 sd s) :
    ∃ sd' s', forL ⟨all, []⟩ t b (rngD 0 N) sd s = .nx sd' s' ∧ I N sd' s' := forL_count I N hb N 0 sd s (Nat.zero_add N) h
/-- a while -/
theorem whS_nx {c : ST} {b : SS} (I : Nat → Sl → HS → Prop) (J : Sl → HS → Prop)
    (hb : ∀ m sd s, I m sd s → (∃ s1, c sd s = .ok false s1 ∧ J sd s1) ∨ ∃ s1, c sd s = .ok true s1 ∧ (b sd s1).Nx fun sd2 s2 => ∃ m', m' < m ∧ I m' sd2 s2)
    (n m : Nat) (sd : Sl) (s : HS) (hn : m < n) (h : I m sd s) : ∃ sd' s', whS n c b sd s = .nx sd' s' ∧ J sd' s' :=
  whS_ind I J (fun m sd s h => (hb m sd s h).imp id fun ⟨s1, e, q⟩ => ⟨s1, e, q.ex⟩) n m sd s hn h
/-! ### what stays -/
/-- all but W stays, new objects may have come -/
structure Fr (W : Nat → Prop) (s s' : HS) : Prop where
  n : s.n ≤ s'.n
  h : ∀ m, m < s.n → ¬ W m → s'.h m = s.h m
theorem Fr.refl {W : Nat → Prop} {s : HS} : Fr W s s := ⟨Nat.le_refl _, fun _ _ _ => rfl⟩
theorem Fr.trans {W : Nat → Prop} {a b c : HS} (h : Fr W a b) (k : Fr W b c) : Fr W a c := ⟨Nat.le_trans h.n k.n, fun m l w => (k.h m (Nat.lt_of_lt_of_le l h.n) w).trans (h.h m l w)⟩
theorem Fr.tr {W V : Nat → Prop} {a b c : HS} (h : Fr W a b) (k : Fr V b c) (hv : ∀ m, m < a.n → V m → W m) : Fr W a c := ⟨Nat.le_trans h.n k.n, fun m l w => (k.h m (Nat.lt_of_lt_of_le l h.n) fun z => w (hv m l z)).trans (h.h m l w)⟩
theorem Fr.mono {W V : Nat → Prop} {a b : HS} (h : Fr W a b) (hw : ∀ m, m < a.n → W m → V m) : Fr V a b := ⟨h.n, fun m l w => h.h m l fun z => w (hw m l z)⟩
theorem Fr.put {W : Nat → Prop} {s : HS} {n : Nat} {o : DO} (hw : n < s.n → W n) : Fr W s (s.put n o) := ⟨Nat.le_refl _, fun m l w => put_ne fun e => w (by rw [e]; exact hw (by rw [← e]; exact l))⟩
theorem Fr.new {W : Nat → Prop} {s : HS} {o : DO} : Fr W s (s.new o) := ⟨Nat.le_succ _, fun m l _ => new_ne (Nat.ne_of_lt l)⟩
end DL
end
section
/-! PU3: plain data: where == is being the same. -/
namespace DL
open PySem PySem.Spec PyProof.Rows L2
/-- ints, texts, None, tuples of such -/
def Pl : Nat → D → Bool
  | _, .non => true
  | _, .int _ => true
  | _, .str x => PyData.strOk x
  | n + 1, .tup ds => ds.all (Pl n)
  | 0, .tup _ => false
  | _, .bl _ => false
  | _, .lst _ => false
  | _, .scr _ => false
  | _, .ref _ => false
mutual
def pd : D → PyData
  | .non => .none
  | .int i => .int i
  | .str x => .str x
  | .bl b => .bool b
  | .tup ds => .tuple (pds ds)
  | .lst ds => .list (pds ds)
  | .scr ds => .list (pds ds)
  | .ref _ => .none
def pds : List D → List PyData
  | [] => []
  | d :: ds => pd d :: pds ds
end
theorem allP_of {α β : Type} {f : α → Option β} {g : α → β} : ∀ {ds : List α}, (∀ d ∈ ds, f d = some (g d)) → allP f ds = some (ds.map g)
  | [], _ => rfl
  | d :: ds, h => by
    rw [allP_cons, h d List.mem_cons_self, allP_of fun x hx => h x (List.mem_cons_of_mem _ hx)]; rfl
theorem pds_map : ∀ ds : List D, pds ds = ds.map pd
  | [] => rfl
  | d :: ds => by unfold pds; rw [pds_map ds]; rfl
theorem Pl_toP (s : HS) : ∀ (n : Nat) (d : D), Pl n d = true → toP n s d = some (pd d)
  | n, .non, _ => by simp [pd]
  | n, .int _, _ => by simp [pd]
  | n, .str x, h => by
    have h : PyData.strOk x = true := by cases n <;> exact h
    rw [toP_str, if_pos h]; rfl
  | 0, .tup ds, h => by cases h
  | n + 1, .tup ds, h => by
    have h : ds.all (Pl n) = true := h
    rw [toP_tup, allP_of (g := pd) fun d hd => Pl_toP s n d (List.all_eq_true.mp h d hd)]
    show _ = some (PyData.tuple (pds ds))
    rw [pds_map]; rfl
  | n, .bl _, h => by cases n <;> cases h
  | n, .lst _, h => by cases n <;> cases h
  | n, .scr _, h => by cases n <;> cases h
  | n, .ref _, h => by cases n <;> cases h
theorem Pl_mono : ∀ (n : Nat) (d : D), Pl n d = true → Pl (n + 1) d = true
  | n, .non, h => by cases n <;> exact h
  | n, .int _, h => by cases n <;> exact h
  | n, .str x, h => by cases n <;> exact h
  | 0, .tup ds, h => by cases h
  | n + 1, .tup ds, h => by
    have h : ds.all (Pl n) = true := h
    show ds.all (Pl (n + 1)) = true
    exact List.all_eq_true.mpr fun d hd => Pl_mono n d (List.all_eq_true.mp h d hd)
  | n, .bl _, h => by cases n <;> cases h
  | n, .lst _, h => by cases n <;> cases h
  | n, .scr _, h => by cases n <;> cases h
  | n, .ref _, h => by cases n <;> cases h
theorem Pl_le {n m : Nat} {d : D} (h : Pl n d = true) (l : n ≤ m) : Pl m d = true := by
  induction m with
  | zero => have : n = 0 := by omega
            subst this; exact h
  | succ m ih =>
    by_cases e : n = m + 1
    · subst e; exact h
    · exact Pl_mono m d (ih (by omega))
mutual
theorem eqv_pd : ∀ (n m : Nat) (a b : D), Pl n a = true → Pl m b = true → (PyData.eqv (pd a) (pd b) = true ↔ a = b)
  | n, m, .non, b, ha, hb => by cases b <;> first | (cases m <;> cases hb; done) | simp [pd, PyData.eqv]
  | n, m, .int i, b, ha, hb => by cases b <;> first | (cases m <;> cases hb; done) | simp [pd, PyData.eqv]
  | n, m, .str i, b, ha, hb => by cases b <;> first | (cases m <;> cases hb; done) | simp [pd, PyData.eqv]
  | 0, m, .tup ds, b, ha, hb => by cases ha
  | n + 1, 0, .tup ds, b, ha, hb => by cases b <;> first | (cases hb; done) | simp [pd, PyData.eqv]
  | n + 1, m + 1, .tup ds, b, ha, hb => by
    cases b with
    | tup es =>
      have ha : ds.all (Pl n) = true := ha
      have hb : es.all (Pl m) = true := hb
      have := eqvs_pd n m ds es (fun d hd => List.all_eq_true.mp ha d hd) (fun d hd => List.all_eq_true.mp hb d hd)
      show PyData.eqv (.tuple (pds ds)) (.tuple (pds es)) = true ↔ _
      rw [PyData.eqv, this]
      simp
    | non => simp [pd, PyData.eqv]
    | int _ => simp [pd, PyData.eqv]
    | str _ => simp [pd, PyData.eqv]
    | bl _ => cases hb
    | lst _ => cases hb
    | scr _ => cases hb
    | ref _ => cases hb
  | n, m, .bl _, b, ha, hb => by cases n <;> cases ha
  | n, m, .lst _, b, ha, hb => by cases n <;> cases ha
  | n, m, .scr _, b, ha, hb => by cases n <;> cases ha
  | n, m, .ref _, b, ha, hb => by cases n <;> cases ha
theorem eqvs_pd : ∀ (n m : Nat) (ds es : List D), (∀ d ∈ ds, Pl n d = true) → (∀ d ∈ es, Pl m d = true) → (PyData.eqvAll (pds ds) (pds es) = true ↔ ds = es)
  | n, m, [], [], _, _ => by simp [pds, PyData.eqvAll]
  | n, m, [], _ :: _, _, _ => by simp [pds, PyData.eqvAll]
  | n, m, _ :: _, [], _, _ => by simp [pds, PyData.eqvAll]
  | n, m, d :: ds, e :: es, h, k => by
    have h1 := eqv_pd n m d e (h d List.mem_cons_self) (k e List.mem_cons_self)
    have h2 := eqvs_pd n m ds es (fun x hx => h x (List.mem_cons_of_mem _ hx)) (fun x hx => k x (List.mem_cons_of_mem _ hx))
    show PyData.eqvAll (pd d :: pds ds) (pd e :: pds es) = true ↔ _
    rw [PyData.eqvAll, Bool.and_eq_true, h1, h2]
    simp
end
open Classical in
theorem o_eqPl (neg : Bool) {x y : D} {s : HS} (hx : Pl 8 x = true) (hy : Pl 8 y = true) : oEq neg x y s = .ok (.bl (decide (x = y) != neg)) s := by
  rw [o_eq (Pl_toP s 8 x hx) (Pl_toP s 8 y hy)]
  congr 3
  have := eqv_pd 8 8 x y hx hy
  by_cases e : x = y
  · rw [decide_eq_true e]; exact this.mpr e
  · rw [decide_eq_false e]
    cases q : PyData.eqv (pd x) (pd y) with
    | false => rfl
    | true => exact absurd (this.mp q) e
/-! lists of plain data -/
open Classical in
theorem o_eqPls (neg : Bool) {x y : D} {xs ys : List D} {s : HS} (hx : toP 8 s x = some (.list (pds xs))) (hy : toP 8 s y = some (.list (pds ys))) (px : ∀ d ∈ xs, Pl 8 d = true) (py : ∀ d ∈ ys, Pl 8 d = true) : oEq neg x y s = .ok (.bl (decide (xs = ys) != neg)) s := by
  rw [o_eq hx hy]
  congr 3
  have := eqvs_pd 8 8 xs ys px py
  rw [PyData.eqv]
  by_cases e : xs = ys
  · rw [decide_eq_true e]; exact this.mpr e
  · rw [decide_eq_false e]
    cases q : PyData.eqvAll (pds xs) (pds ys) with
    | false => rfl
    | true => exact absurd (this.mp q) e
theorem toP_lstPl {s : HS} {n : Nat} {ds : List D} (h : ∀ d ∈ ds, Pl n d = true) : toP (n + 1) s (.lst ds) = some (.list (pds ds)) := by
  rw [toP_lst, allP_of (g := pd) fun d hd => Pl_toP s n d (h d hd), pds_map]; rfl
theorem toP_refPl {s : HS} {n r : Nat} {ds : List D} (e : s.h r = some (.lst ds)) (h : ∀ d ∈ ds, Pl n d = true) : toP (n + 1) s (.ref r) = some (.list (pds ds)) := by
  rw [toP_ref n r e, allP_of (g := pd) fun d hd => Pl_toP s n d (h d hd), pds_map]; rfl
/-! any data is equal to the same data -/
mutual
theorem toP_lay (s : HS) : ∀ (n : Nat) (d : D) (p : PyData), toP n s d = some p → p.canLay0 = true
  | n, .non, p, h => by simp at h; subst h; rfl
  | n, .bl b, p, h => by simp at h; subst h; rfl
  | n, .int i, p, h => by simp at h; subst h; rfl
  | n, .str x, p, h => by
    rw [toP_str] at h
    split at h
    · rename_i q; cases h; exact q
    · cases h
  | 0, .tup ds, p, h => by cases h
  | 0, .lst ds, p, h => by cases h
  | 0, .scr ds, p, h => by cases h
  | 0, .ref ds, p, h => by cases h
  | n + 1, .tup ds, p, h => by
    rw [toP_tup] at h
    cases e : allP (toP n s) ds with
    | none => rw [e] at h; cases h
    | some ps => rw [e] at h; cases h; exact toPs_lay s n ds ps e
  | n + 1, .lst ds, p, h => by
    rw [toP_lst] at h
    cases e : allP (toP n s) ds with
    | none => rw [e] at h; cases h
    | some ps => rw [e] at h; cases h; exact toPs_lay s n ds ps e
  | n + 1, .scr ds, p, h => by
    rw [toP_scr] at h
    cases e : allP (toP n s) ds with
    | none => rw [e] at h; cases h
    | some ps => rw [e] at h; cases h; exact toPs_lay s n ds ps e
  | n + 1, .ref k, p, h => by
    have h' : (match s.h k with
      | some (.lst ds) => (allP (toP n s) ds).map PyData.list
      | _ => none) = some p := h
    split at h'
    · rename_i ds _
      cases e : allP (toP n s) ds with
      | none => rw [e] at h'; cases h'
      | some ps => rw [e] at h'; cases h'; exact toPs_lay s n ds ps e
    · cases h'
theorem toPs_lay (s : HS) : ∀ (n : Nat) (ds : List D) (ps : List PyData), allP (toP n s) ds = some ps → PyData.canLayAll0 ps = true
  | n, [], ps, h => by cases h; rfl
  | n, d :: ds, ps, h => by
    rcases allP_some h with ⟨e, _⟩ | ⟨d', r', p, q, e, rfl, h1, h2⟩
    · cases e
    · cases e
      simp only [PyData.canLayAll0, toP_lay s n d p h1, toPs_lay s n ds q h2, Bool.and_self]
end
theorem o_eqSame (neg : Bool) {x y : D} {p : PyData} {s : HS} (hx : toP 8 s x = some p) (hy : toP 8 s y = some p) : oEq neg x y s = .ok (.bl (!neg)) s := by
  rw [o_eq hx hy, SeqAt.eqv_refl p (toP_lay s 8 x p hx), Bool.true_bne]
open Classical in
theorem any_pd {n : Nat} {x : D} (hx : Pl n x = true) : ∀ (ds : List D), (∀ d ∈ ds, Pl n d = true) → ((pds ds).any fun z => PyData.eqv z (pd x)) = decide (x ∈ ds)
  | [], _ => by simp [pds]
  | d :: ds, h => by
    have h1 := eqv_pd n n d x (h d List.mem_cons_self) hx
    have h2 := any_pd hx ds fun y hy => h y (List.mem_cons_of_mem _ hy)
    show (pd d :: pds ds).any _ = _
    rw [List.any_cons, h2]
    by_cases e : d = x
    · subst e
      rw [h1.mpr rfl]; simp
    · have : PyData.eqv (pd d) (pd x) = false := by
        cases q : PyData.eqv (pd d) (pd x) with
        | false => rfl
        | true => exact absurd (h1.mp q) e
      rw [this]
      have e' : ¬ x = d := fun z => e z.symm
      simp [e']
open Classical in
theorem o_inPl (neg : Bool) {x y : D} {ds : List D} {s : HS} (hx : Pl 7 x = true) (hy : toP 8 s y = some (.list (pds ds))) (nt : ∀ es, y ≠ .tup es) (h : ∀ d ∈ ds, Pl 7 d = true) : oIn neg x y s = .ok (.bl (decide (x ∈ ds) != neg)) s := by
  have e : oIn neg x y s = (match toP 8 s x, toP 8 s y with
    | some p, some (.list qs) => .ok (.bl ((qs.any fun z => PyData.eqv z p) != neg)) s
    | _, _ => .bad) := by
    cases y <;> first | rfl | exact absurd rfl (nt _)
  rw [e, Pl_toP s 8 x (Pl_mono 7 x hx), hy]
  show Res.ok (D.bl _) s = _
  rw [any_pd hx ds h]
/-- flat data in a tuple -/
def Fl : D → Bool
  | .non => true
  | .int _ => true
  | .str _ => true
  | _ => false
theorem flP_pd {d : D} (h : Fl d = true) : flP d = some (pd d) := by cases d <;> first | rfl | cases h
theorem eqv_fl {a b : D} (ha : Fl a = true) (hb : Fl b = true) : PyData.eqv (pd a) (pd b) = true ↔ a = b := by
  cases a <;> first | (cases ha; done) | (cases b <;> first | (cases hb; done) | simp [pd, PyData.eqv])
open Classical in
theorem o_inT (neg : Bool) {x : D} {ds : List D} {s : HS} (hx : Fl x = true) (h : ∀ d ∈ ds, Fl d = true) : oIn neg x (.tup ds) s = .ok (.bl (decide (x ∈ ds) != neg)) s := by
  show (match flP x, allP flP ds with
    | some p, some qs => Res.ok (D.bl ((qs.any fun z => PyData.eqv z p) != neg)) s
    | _, _ => .bad) = _
  rw [flP_pd hx, allP_of (g := pd) fun d hd => flP_pd (h d hd)]
  show Res.ok (D.bl _) s = _
  congr 3
  rw [List.any_map]
  induction ds with
  | nil => simp
  | cons d ds ih =>
    rw [List.any_cons, ih fun y hy => h y (List.mem_cons_of_mem _ hy)]
    have h1 := eqv_fl (h d List.mem_cons_self) hx
    by_cases e : d = x
    · subst e
      show (PyData.eqv (pd d) (pd d) || _) = _
      rw [h1.mpr rfl]; simp
    · show (PyData.eqv (pd d) (pd x) || _) = _
      have : PyData.eqv (pd d) (pd x) = false := by
        cases q : PyData.eqv (pd d) (pd x) with
        | false => rfl
        | true => exact absurd (h1.mp q) e
      have e' : ¬ x = d := fun z => e z.symm
      rw [this]; simp [e']
theorem rep_one (x : D) (k : Nat) : (List.replicate k [x]).flatten = List.replicate k x := by
  induction k with
  | zero => rfl
  | succ k ih => rw [List.replicate_succ, List.flatten_cons, ih]; rfl
theorem o_mulRep (b : Bool) (xs : List D) (k : Int) (s : HS) (h0 : -1000 ≤ k ∧ k < 1000) (h : xs.length * k.toNat ≤ 16777216) : oMul b (.lst xs) (.int k) s = mkL b (List.replicate k.toNat xs).flatten s := by
  have h1 : -(2 ^ 63) ≤ k := Int.le_trans (by decide) h0.1
  have h2 : k < 2 ^ 63 := Int.lt_of_lt_of_le h0.2 (by decide)
  have h3 := size_big h
  unfold oMul
  simp only [getR_lst, h1, h2, h3, and_self, if_true]
end DL
end
section
/-! SpA: what the drawing from a row of three ints does; counters. -/
local macro_rules | `(tactic| walk_at "d") => `(tactic| first | omega | (simp only [List.length_cons, List.length_nil, List.length_append, List.length_map, List.length_take, List.length_drop]; omega) | (simp; done))
namespace DL
open PySem PySem.Spec PyProof.Rows L2
/-- a row to draw from stands at r -/
def Row (s : HS) (r : Nat) : Prop := ∃ a b c : Int, s.h r = some (.lst [.int a, .int b, .int c]) ∧ 0 ≤ b ∧ b < 536870909
/-- only r changed -/
def Only1 (r : Nat) (s s' : HS) : Prop := s'.n = s.n ∧ ∀ m, m ≠ r → s'.h m = s.h m
theorem Only1.refl (r : Nat) (s : HS) : Only1 r s s := ⟨rfl, fun _ _ => rfl⟩
theorem Only1.trans {r : Nat} {a b c : HS} (h : Only1 r a b) (k : Only1 r b c) : Only1 r a c := ⟨k.1.trans h.1, fun m e => (k.2 m e).trans (h.2 m e)⟩
theorem stream_spec (c : Int) (s : HS) : ∃ s', F_stream [.int c] s = .ok (.ref s.n) s' ∧ Row s' s.n ∧ s'.n = s.n + 1 ∧ ∀ m, m ≠ s.n → s'.h m = s.h m := by
  have h1 : 0 ≤ c % 536870909 ∧ c % 536870909 < 536870909 := ⟨Int.emod_nonneg _ (by decide), Int.emod_lt_of_pos _ (by decide)⟩
  have h2 : 0 ≤ c % 536870909 * (c % 536870909) % 536870909 ∧ c % 536870909 * (c % 536870909) % 536870909 < 536870909 := ⟨Int.emod_nonneg _ (by decide), Int.emod_lt_of_pos _ (by decide)⟩
  have h3 : 0 ≤ (c % 536870909 * (c % 536870909) % 536870909 * (c % 536870909 + 7) + 13) % 536870909 ∧ (c % 536870909 * (c % 536870909) % 536870909 * (c % 536870909 + 7) + 13) % 536870909 < 536870909 := ⟨Int.emod_nonneg _ (by decide), Int.emod_lt_of_pos _ (by decide)⟩
  refine ⟨s.new (.lst [.int c, .int ((c % 536870909 * (c % 536870909) % 536870909 * (c % 536870909 + 7) + 13) % 536870909), .int (if 1000000000000000000 ≤ c then 1 else 0)]), ?_, ⟨_, _, _, new_same, h3⟩, rfl, fun m h => new_ne h⟩
  unfold F_stream f_stream
  simp (disch := walk_at "d") [oInt]
theorem take_spec {r : Nat} {s : HS} (h : Row s r) {m : Int} (hm : 0 < m ∧ m < 2 ^ 62) : ∃ v s', F_take [.ref r, .int m] s = .ok (.int v) s' ∧ 0 ≤ v ∧ v < m ∧ Row s' r ∧ Only1 r s s' := by
  obtain ⟨a, b, c, h0, hb, hb2⟩ := h
  by_cases e : c = 1
  · refine ⟨a % m, s.put r (.lst [.int (a / m), .int b, .int c]), ?_, Int.emod_nonneg _ (by omega), Int.emod_lt_of_pos _ hm.1, ⟨_, _, _, put_same, hb, hb2⟩, rfl, fun k hk => put_ne hk⟩
    unfold F_take f_take
    simp (disch := walk_at "d") [o_ixR h0, o_setR h0, atI, ixN, e]
  · refine ⟨((b + 7919) * (b + 104729) % 536870909 * 48271 + 11) / 64 % m, s.put r (.lst [.int a, .int ((b + 7919) * (b + 104729) % 536870909), .int c]), ?_, Int.emod_nonneg _ (by omega), Int.emod_lt_of_pos _ hm.1, ⟨_, _, _, put_same, Int.emod_nonneg _ (by decide), Int.emod_lt_of_pos _ (by decide)⟩, rfl, fun k hk => put_ne hk⟩
    unfold F_take f_take
    simp (disch := walk_at "d") [o_ixR h0, o_setR h0, atI, ixN, e]
    rw [o_ixR put_same]
    simp (disch := walk_at "d") [atI, ixN]
theorem next_spec (c n r : Int) (s : HS) (h : 0 < n * r) (hn : n < 2 ^ 20) (hn' : 0 < n) : F_next_counter [.int c, .int n, .int r] s = .ok (.int ((c + 1) % (n * r))) s := by
  unfold F_next_counter f_next_counter
  simp (disch := walk_at "d")
theorem place_spec (c n : Int) (s : HS) (h : 0 < n) : F_place_of [.int c, .int n] s = .ok (.int (c % n)) s := by
  unfold F_place_of f_place_of
  simp (disch := walk_at "d")
theorem ahead_spec (c d n r : Int) (s : HS) (h : 0 < n * r) (hn : n < 2 ^ 20) (hn' : 0 < n) : F_ahead_by [.int c, .int d, .int n, .int r] s = .ok (.int ((c - d) % (n * r))) s := by
  unfold F_ahead_by f_ahead_by
  simp (disch := walk_at "d")
end DL
end
section
/-! PU4: mixed dicts, run. -/
namespace DL
open PySem PySem.Spec PyProof.Rows L2
section
variable {sd : Sl} {s : HS}
@[simp] theorem e_mnew : mnewE sd s = .ok (.ref s.n) (s.new (.mix [] 0)) := (rfl)
theorem getM_ref {n : Nat} {kvs : List (D × D)} {ep : Nat} (h : s.h n = some (.mix kvs ep)) : getM s (.ref n) = some (kvs, ep) := by simp only [getM, h]
theorem o_mget {n : Nat} {kvs : List (D × D)} {ep : Nat} (h : s.h n = some (.mix kvs ep)) (k : D) : oMGet (.ref n) k s = match keyM k with
  | some q => match lkM kvs q with
    | some d => .ok d s
    | none => .bad
  | none => .bad := by
  unfold oMGet; rw [getM_ref h]
  cases keyM k <;> rfl
theorem o_min {neg : Bool} {n : Nat} {kvs : List (D × D)} {ep : Nat} (h : s.h n = some (.mix kvs ep)) (k : D) : oMIn neg k (.ref n) s = match keyM k with
  | some q => .ok (.bl ((lkM kvs q).isSome != neg)) s
  | none => .bad := by
  unfold oMIn; rw [getM_ref h]
  cases keyM k <;> rfl
def kMp3 (sd : Sl) (d x k : D) (s : HS) : SR := match x with
  | .ref n => match s.h n, keyM k with
    | some (.mix kvs ep), some q => if kvs.length < sizeLine then .nx sd (s.put n (.mix (ptM kvs q k d) (if (lkM kvs q).isSome = true then ep else ep + 1))) else .bad
    | _, _ => .bad
  | _ => .bad
theorem k_Mp3 {n : Nat} {kvs : List (D × D)} {ep : Nat} (h : s.h n = some (.mix kvs ep)) (d k : D) : kMp3 sd d (.ref n) k s = match keyM k with
    | some q => if kvs.length < sizeLine then .nx sd (s.put n (.mix (ptM kvs q k d) (if (lkM kvs q).isSome = true then ep else ep + 1))) else .bad
    | none => .bad := by
  unfold kMp3; simp only [h]
  cases keyM k <;> rfl
def kMp2 (i : SE) (sd : Sl) (d x : D) (s : HS) : SR := (i sd s).bs sd (kMp3 sd d x)
@[simp] theorem k_Mp2 (i : SE) (d x : D) : kMp2 i sd d x s = (i sd s).bs sd (kMp3 sd d x) := (rfl)
def kMp1 (o i : SE) (sd : Sl) (d : D) (s : HS) : SR := (o sd s).bs sd (kMp2 i sd d)
@[simp] theorem k_Mp1 (o i : SE) (d : D) : kMp1 o i sd d s = (o sd s).bs sd (kMp2 i sd d) := (rfl)
@[simp] theorem e_mputS (o i v : SE) : mputS o i v sd s = (v sd s).bs sd (kMp1 o i sd) := (rfl)
def kMg3 (x y w : D) (s : HS) : Res D := match getM s x, keyM y with
    | some p, some q => .ok ((lkM p.1 q).getD w) s
    | _, _ => .bad
theorem k_Mg3 {n : Nat} {kvs : List (D × D)} {ep : Nat} (h : s.h n = some (.mix kvs ep)) (y w : D) : kMg3 (.ref n) y w s = match keyM y with
  | some q => .ok ((lkM kvs q).getD w) s
  | none => .bad := by
  unfold kMg3; rw [getM_ref h]
  cases keyM y <;> rfl
def kMg2 (z : SE) (sd : Sl) (x y : D) (s : HS) : Res D := (z sd s).bind (kMg3 x y)
@[simp] theorem k_Mg2 (z : SE) (x y : D) : kMg2 z sd x y s = (z sd s).bind (kMg3 x y) := (rfl)
def kMg1 (k z : SE) (sd : Sl) (x : D) (s : HS) : Res D := match getM s x with
  | some _ => (k sd s).bind (kMg2 z sd x)
  | none => .bad
theorem k_Mg1 {n : Nat} {kvs : List (D × D)} {ep : Nat} (h : s.h n = some (.mix kvs ep)) (k z : SE) : kMg1 k z sd (.ref n) s = (k sd s).bind (kMg2 z sd (.ref n)) := by
  unfold kMg1; rw [getM_ref h]
@[simp] theorem e_mget2 (o k z : SE) : mget2E o k z sd s = (o sd s).bind (kMg1 k z sd) := (rfl)
def kItM (x : D) (s : HS) : Res Src := match x with
  | .ref n => match s.h n with
    | some (.mix kvs ep) => .ok ⟨kvs.map (·.1), [(n, .mix kvs ep)]⟩ s
    | _ => .bad
  | _ => .bad
theorem k_ItM {n : Nat} {kvs : List (D × D)} {ep : Nat} (h : s.h n = some (.mix kvs ep)) : kItM (.ref n) s = .ok ⟨kvs.map (·.1), [(n, .mix kvs ep)]⟩ s := by
  unfold kItM; simp only [h]
@[simp] theorem e_itM (f : SE) : itM f sd s = (f sd s).bind kItM := (rfl)
end
/-! ### methods of lists -/
theorem o_app {s : HS} {n : Nat} {ds : List D} (h : s.h n = some (.lst ds)) (d : D) (l : ds.length < 16777216) : oAppend (.ref n) [d] s = .ok .non (s.put n (.lst (ds ++ [d]))) := by
  unfold oAppend mutL
  simp only [h]
  rw [if_pos (by rw [sizeLine_eq]; exact l)]
theorem o_popAt {s : HS} {n : Nat} {d : D} {ds : List D} (h : s.h n = some (.lst ds)) {i : Int} {k : Nat} (hi : i = k) (hk : k < ds.length ∧ k < 1000000) (hd : ds[k]? = some d) : oPop (.ref n) [.int i] s = .ok d (s.put n (.lst (ds.eraseIdx k))) := by
  subst hi
  have e : seqIndex? (k : Int) ds.length = some k := by
    unfold seqIndex?
    have hk1 := hk.1
    simp
    rw [if_neg (by omega)]
    omega
  unfold oPop mutL
  simp only [h, e, hd]
  rw [if_pos ⟨by omega, by omega⟩]
theorem o_pop0 {s : HS} {n : Nat} {d : D} {ds : List D} (h : s.h n = some (.lst (d :: ds))) : oPop (.ref n) [.int 0] s = .ok d (s.put n (.lst ds)) := by
  rw [o_popAt h (i := 0) (k := 0) (d := d) (by omega) (by simp) (by simp)]; rfl
theorem o_popL {s : HS} {n : Nat} {d : D} {ds : List D} (h : s.h n = some (.lst (ds ++ [d]))) : oPop (.ref n) [] s = .ok d (s.put n (.lst ds)) := by
  unfold oPop mutL
  simp [h]
theorem o_clear {s : HS} {n : Nat} {ds : List D} (h : s.h n = some (.lst ds)) : oClear (.ref n) [] s = .ok .non (s.put n (.lst [])) := by
  unfold oClear mutL
  simp [h]
theorem o_ext {s : HS} {n : Nat} {ds es : List D} {x : D} (h : s.h n = some (.lst ds)) (hx : getR s x = some es) (l : ds.length + es.length ≤ 16777216) : oExtend (.ref n) [x] s = .ok .non (s.put n (.lst (ds ++ es))) := by
  unfold oExtend mutL
  simp only [hx, h]
  rw [if_pos (size_big l)]
def kZA : List D → HS → Res Src := fun x s => match x with
  | [.tup ds, .tup es] => .ok ⟨zipD ds es, []⟩ s
  | [x, y] => match srcL s x, srcL s y with
    | some (ds, l), some (es, m) => .ok ⟨zipD ds es, l ++ m⟩ s
    | _, _ => .bad
  | _ => .bad
@[simp] theorem e_itZA (g : SA) {sd : Sl} {s : HS} : itZA g sd s = (g sd s).bind kZA := (rfl)
@[simp] theorem k_ZAt (ds es : List D) {s : HS} : kZA [.tup ds, .tup es] s = .ok ⟨zipD ds es, []⟩ s := (rfl)
theorem k_ZAl {x y : D} {s : HS} {ds es : List D} {l m : List (Nat × DO)} (h1 : srcL s x = some (ds, l)) (h2 : srcL s y = some (es, m)) : kZA [x, y] s = .ok ⟨zipD ds es, l ++ m⟩ s := by
  have : kZA [x, y] s = match srcL s x, srcL s y with
    | some (ds, l), some (es, m) => .ok ⟨zipD ds es, l ++ m⟩ s
    | _, _ => .bad := by
    cases x <;> first | rfl | (cases h1; done)
  rw [this, h1, h2]
section
variable (neg : Bool) {s : HS}
@[simp] theorem o_isN : oIs neg .non .non s = .ok (.bl (!neg)) s := (rfl)
@[simp] theorem o_isI (i : Int) : oIs neg (.int i) .non s = .ok (.bl neg) s := (rfl)
@[simp] theorem o_isB (b : Bool) : oIs neg (.bl b) .non s = .ok (.bl neg) s := (rfl)
@[simp] theorem o_isS (x : Str) : oIs neg (.str x) .non s = .ok (.bl neg) s := (rfl)
@[simp] theorem o_isT (ds : List D) : oIs neg (.tup ds) .non s = .ok (.bl neg) s := (rfl)
@[simp] theorem o_isL (ds : List D) : oIs neg (.lst ds) .non s = .ok (.bl neg) s := (rfl)
@[simp] theorem o_isR (n : Nat) : oIs neg (.ref n) .non s = .ok (.bl neg) s := (rfl)
@[simp] theorem o_isBB (a b : Bool) : oIs neg (.bl a) (.bl b) s = .ok (.bl ((a == b) != neg)) s := (rfl)
end
end DL
end
section
namespace DL
open PySem PySem.Spec PyProof.Rows L2
noncomputable def f_Store_init : SS :=
  (seq (setF "Store" "worths" (v_ 0) mnewE)
  (setF "Store" "rows" (v_ 0) (lstE false (acons (lstE true anil) (acons (lstE true anil) anil)))))
noncomputable def F_Store_init : FN := bodyD 1 f_Store_init
noncomputable def f_Store_write : SS :=
  (exS (mth (b2 (fld "Store" "rows" (v_ 0)) (v_ 1) oIx) (acons (tupE (acons (v_ 2) (acons (v_ 3) anil))) anil) oAppend))
noncomputable def F_Store_write : FN := bodyD 4 f_Store_write
noncomputable def f_Store_memory : SS :=
  (retS (mget2E (fld "Store" "worths" (v_ 0)) (v_ 1) (c_ (.int 0))))
noncomputable def F_Store_memory : FN := bodyD 2 f_Store_memory
noncomputable def L_Store_read_1 : SS :=
  (ifS (tb (b2 (v_ 4) (v_ 2) (oEq false))) (setS 3 (v_ 5)) skip)
noncomputable def f_Store_read : SS :=
  (seq (setS 3 (methE "Store" "memory" (v_ 0) (acons (v_ 2) anil) (callD 2 F_Store_memory)))
  (seq (forS (itL (b2 (fld "Store" "rows" (v_ 0)) (v_ 1) oIx)) (tgT [4, 5]) L_Store_read_1)
  (retS (v_ 3))))
noncomputable def F_Store_read : FN := bodyD 6 f_Store_read
noncomputable def f_Store_drain : SS :=
  (seq (ifS (tb (b2 (b2 (fld "Store" "rows" (v_ 0)) (v_ 1) oIx) (lstE false anil) (oEq false))) (rsS "NoDeed") skip)
  (seq (unpS [2, 3] (mth (b2 (fld "Store" "rows" (v_ 0)) (v_ 1) oIx) (acons (c_ (.int 0)) anil) oPop))
  (mputS (fld "Store" "worths" (v_ 0)) (v_ 2) (v_ 3))))
noncomputable def F_Store_drain : FN := bodyD 4 f_Store_drain
noncomputable def L_Store_fence_1 : SS :=
  (exS (methE "Store" "drain" (v_ 0) (acons (v_ 1) anil) (callD 2 F_Store_drain)))
noncomputable def W_Store_fence_1 : ST :=
  (tb (b2 (b2 (fld "Store" "rows" (v_ 0)) (v_ 1) oIx) (lstE false anil) (oEq true)))
noncomputable def f_Store_fence : SS :=
  (whS 100000 W_Store_fence_1 L_Store_fence_1)
noncomputable def F_Store_fence : FN := bodyD 2 f_Store_fence
noncomputable def f_Store_waits : SS :=
  (retS (bN (acons (b2 (fld "Store" "rows" (v_ 0)) (v_ 1) oIx) anil) (oList false)))
noncomputable def F_Store_waits : FN := bodyD 2 f_Store_waits
noncomputable def f_Store_cells : SS :=
  (retS (compE false (itM (fld "Store" "worths" (v_ 0))) [1] (tgN 1) (tb (b2 (b2 (fld "Store" "worths" (v_ 0)) (v_ 1) oMGet) (c_ (.int 0)) (oEq true))) (v_ 1)))
noncomputable def F_Store_cells : FN := bodyD 2 f_Store_cells
end DL
end
section
/-! SpB: stores: what their methods do. -/
local macro_rules | `(tactic| walk_at "d") => `(tactic| first | omega | (simp only [List.length_cons, List.length_nil, List.length_append, List.length_map, List.length_take, List.length_drop]; omega) | (simp; done))
namespace DL
open PySem PySem.Spec PyProof.Rows L2
/-! ### plain data as keys -/
theorem keyDs_map : ∀ {ds : List D}, (∀ d ∈ ds, ∃ q, keyD d = some q) → keyDs ds = some (ds.map nkOf)
  | [], _ => by rw [keyDs]; rfl
  | d :: ds, h => by
    obtain ⟨q, e⟩ := h d List.mem_cons_self
    rw [keyDs, e, keyDs_map fun x hx => h x (List.mem_cons_of_mem _ hx)]
    simp [nkOf, e]
theorem depthAll_le {n : Nat} : ∀ {ks : List NestedKey}, (∀ k ∈ ks, k.depth ≤ n) → NestedKey.depthAll ks ≤ n
  | [], _ => Nat.zero_le _
  | k :: ks, h => by
    have h1 := h k List.mem_cons_self
    have h2 := depthAll_le (ks := ks) fun x hx => h x (List.mem_cons_of_mem _ hx)
    show max k.depth (NestedKey.depthAll ks) ≤ n
    omega
theorem Pl_key : ∀ (n : Nat) (d : D), Pl n d = true → ∃ q, keyD d = some q ∧ q.depth ≤ n
  | n, .non, _ => ⟨.none, by rw [keyD], Nat.zero_le _⟩
  | n, .int i, _ => ⟨.num i, by rw [keyD], Nat.zero_le _⟩
  | n, .str x, _ => ⟨.text x, by rw [keyD], Nat.zero_le _⟩
  | 0, .tup ds, h => by cases h
  | n + 1, .tup ds, h => by
    have h : ds.all (Pl n) = true := h
    have ih := fun d hd => Pl_key n d (List.all_eq_true.mp h d hd)
    refine ⟨.tup (ds.map nkOf), by rw [keyD, keyDs_map fun d hd => (ih d hd).imp fun _ z => z.1]; rfl, ?_⟩
    show NestedKey.depthAll _ + 1 ≤ n + 1
    refine Nat.succ_le_succ (depthAll_le fun k hk => ?_)
    obtain ⟨d, hd, rfl⟩ := List.mem_map.mp hk
    obtain ⟨q, e, l⟩ := ih d hd
    unfold nkOf
    rw [e]; exact l
  | n, .bl _, h => by cases n <;> cases h
  | n, .lst _, h => by cases n <;> cases h
  | n, .scr _, h => by cases n <;> cases h
  | n, .ref _, h => by cases n <;> cases h
theorem Pl_keyD {n : Nat} {d : D} (h : Pl n d = true) : keyD d = some (nkOf d) := by
  obtain ⟨q, e, _⟩ := Pl_key n d h
  unfold nkOf; rw [e]; rfl
theorem Pl_keyM {n : Nat} {d : D} (h : Pl n d = true) (l : n ≤ 8) : keyM d = some (nkOf d) := by
  obtain ⟨q, e, z⟩ := Pl_key n d h
  unfold keyM nkOf
  rw [e]
  dsimp only
  rw [if_pos (by omega)]; rfl
mutual
theorem keyD_inj : ∀ (a b : D) (q : NestedKey), keyD a = some q → keyD b = some q → a = b
  | .non, b, q, h, k => by rw [keyD] at h; cases h; cases b <;> rw [keyD] at k <;> first | rfl | (cases k; done) | (simp at k; done)
  | .int i, b, q, h, k => by rw [keyD] at h; cases h; cases b <;> rw [keyD] at k <;> first | (cases k; rfl) | (cases k; done) | (simp at k; done)
  | .str i, b, q, h, k => by rw [keyD] at h; cases h; cases b <;> rw [keyD] at k <;> first | (cases k; rfl) | (cases k; done) | (simp at k; done)
  | .tup ds, b, q, h, k => by
    rw [keyD] at h
    cases e : keyDs ds with
    | none => rw [e] at h; cases h
    | some qs =>
      rw [e] at h; cases h
      cases b with
      | tup es =>
        rw [keyD] at k
        cases e2 : keyDs es with
        | none => rw [e2] at k; cases k
        | some rs => rw [e2] at k; cases k; rw [keyDs_inj ds es _ e e2]
      | non => rw [keyD] at k; cases k
      | int _ => rw [keyD] at k; cases k
      | str _ => rw [keyD] at k; cases k
      | bl _ => rw [keyD] at k; cases k
      | lst _ => rw [keyD] at k; cases k
      | scr _ => rw [keyD] at k; cases k
      | ref _ => rw [keyD] at k; cases k
  | .bl _, b, q, h, k => by rw [keyD] at h; cases h
  | .lst _, b, q, h, k => by rw [keyD] at h; cases h
  | .scr _, b, q, h, k => by rw [keyD] at h; cases h
  | .ref _, b, q, h, k => by rw [keyD] at h; cases h
theorem keyDs_inj : ∀ (as bs : List D) (qs : List NestedKey), keyDs as = some qs → keyDs bs = some qs → as = bs
  | [], bs, qs, h, k => by
    rw [keyDs] at h; cases h
    cases bs with
    | nil => rfl
    | cons b bs =>
      rw [keyDs] at k
      cases e1 : keyD b <;> rw [e1] at k <;> first | (cases k; done) | (cases e2 : keyDs bs <;> rw [e2] at k <;> cases k)
  | a :: as, bs, qs, h, k => by
    rw [keyDs] at h
    cases e1 : keyD a with
    | none => rw [e1] at h; cases h
    | some q =>
      cases e2 : keyDs as with
      | none => rw [e1, e2] at h; cases h
      | some qr =>
        rw [e1, e2] at h; cases h
        cases bs with
        | nil => rw [keyDs] at k; cases k
        | cons b bs =>
          rw [keyDs] at k
          cases e3 : keyD b with
          | none => rw [e3] at k; cases k
          | some q2 =>
            cases e4 : keyDs bs with
            | none => rw [e3, e4] at k; cases k
            | some qr2 =>
              rw [e3, e4] at k
              cases k
              rw [keyD_inj a b _ e1 e3, keyDs_inj as bs _ e2 e4]
end
theorem nk_inj {n m : Nat} {a b : D} (ha : Pl n a = true) (hb : Pl m b = true) (h : nkOf a = nkOf b) : a = b := keyD_inj a b _ (Pl_keyD ha) (by rw [h]; exact Pl_keyD hb)
theorem lkM_put (kvs : List (D × D)) (q r : NestedKey) (k v : D) (hk : keyD k = some q) : lkM (ptM kvs q k v) r = if r = q then some v else lkM kvs r := by
  have mp : ∀ l : List (D × D), lkM (l.map fun kv => if keyD kv.1 = some q then (kv.1, v) else kv) r = (lkM l r).map fun x => if r = q then v else x := by
    intro l
    induction l with
    | nil => rfl
    | cons p l ih =>
      unfold lkM at ih ⊢
      rw [List.map_cons, List.find?_cons, List.find?_cons]
      have e : keyD (if keyD p.1 = some q then (p.1, v) else p).1 = keyD p.1 := by split <;> rfl
      rw [e]
      by_cases h : keyD p.1 = some r
      · rw [decide_eq_true h]
        by_cases h2 : r = q
        · subst h2; simp [h]
        · have : ¬ keyD p.1 = some q := fun z => h2 (Option.some.inj (h.symm.trans z))
          simp [h2, this]
      · rw [decide_eq_false h]; exact ih
  have sn : ∀ l : List (D × D), (∀ kv ∈ l, keyD kv.1 ≠ some q) → lkM (l ++ [(k, v)]) r = if r = q then some v else lkM l r := by
    intro l hl
    induction l with
    | nil =>
      unfold lkM
      by_cases h : r = q
      · subst h; simp [hk]
      · have : ¬ q = r := fun z => h z.symm
        simp [hk, h, this]
    | cons p l ih =>
      have ih := ih fun x hx => hl x (List.mem_cons_of_mem _ hx)
      have hp := hl p List.mem_cons_self
      unfold lkM at ih ⊢
      rw [List.cons_append, List.find?_cons, List.find?_cons]
      by_cases h : keyD p.1 = some r
      · rw [decide_eq_true h]
        have : ¬ r = q := fun z => hp (z ▸ h)
        simp [this]
      · rw [decide_eq_false h]; exact ih
  unfold ptM
  split
  · rename_i h
    rw [mp]
    by_cases e : r = q
    · subst e
      rw [if_pos rfl]
      obtain ⟨x, hx, e⟩ := List.any_eq_true.mp h
      unfold lkM
      cases f : kvs.find? (fun kv => decide (keyD kv.1 = some r)) with
      | none => exact absurd e (by simpa using List.find?_eq_none.mp f x hx)
      | some y => simp
    · rw [if_neg e]
      cases lkM kvs r <;> simp [e]
  · rename_i h
    refine sn kvs fun kv hkv e => h (List.any_eq_true.mpr ⟨kv, hkv, decide_eq_true e⟩)
theorem ptM_len (kvs : List (D × D)) (q : NestedKey) (k v : D) : (ptM kvs q k v).length ≤ kvs.length + 1 := by
  unfold ptM
  split
  · simp
  · simp
theorem ptM_mem {kvs : List (D × D)} {q : NestedKey} {k v : D} {p : D × D} (h : p ∈ ptM kvs q k v) : (∃ w, (p.1, w) ∈ kvs ∧ (p.2 = w ∨ p.2 = v)) ∨ p = (k, v) := by
  unfold ptM at h
  split at h
  · obtain ⟨x, hx, e⟩ := List.mem_map.mp h
    refine .inl ⟨x.2, ?_⟩
    split at e
    · subst e; exact ⟨hx, .inr rfl⟩
    · subst e; exact ⟨hx, .inl rfl⟩
  · rcases List.mem_append.mp h with h | h
    · exact .inl ⟨p.2, h, .inl rfl⟩
    · exact .inr (List.mem_singleton.mp h)
theorem ptM_nodup {kvs : List (D × D)} {k v : D} {n : Nat} (hk : Pl n k = true) (h : (kvs.map (·.1)).Nodup) (hp : ∀ p ∈ kvs, Pl 6 p.1 = true) : ((ptM kvs (nkOf k) k v).map (·.1)).Nodup := by
  unfold ptM
  split
  · rw [List.map_map]
    have : ((·.1) ∘ fun kv : D × D => if keyD kv.1 = some (nkOf k) then (kv.1, v) else kv) = (·.1) := by
      funext kv
      show (if keyD kv.1 = some (nkOf k) then (kv.1, v) else kv).1 = _
      split <;> rfl
    rw [this]; exact h
  · rename_i hn
    rw [List.map_append, List.nodup_append]
    refine ⟨h, by simp, fun a ha b hb e => ?_⟩
    simp only [List.map_cons, List.map_nil, List.mem_singleton] at hb
    obtain ⟨p, hp', rfl⟩ := List.mem_map.mp ha
    exact hn (List.any_eq_true.mpr ⟨p, hp', decide_eq_true (by rw [e, hb]; exact Pl_keyD hk)⟩)
/-! ### stores as data -/
structure Sto where
  mem : List (D × D)
  ep : Nat
  r0 : List (D × D)
  r1 : List (D × D)
def tp (p : D × D) : D := .tup [p.1, p.2]
def Sto.row (st : Sto) (side : Int) : List (D × D) := if side = 0 then st.r0 else st.r1
def Sto.setRow (st : Sto) (side : Int) (l : List (D × D)) : Sto := if side = 0 then { st with r0 := l } else { st with r1 := l }
def Sto.size (st : Sto) : Nat := st.r0.length + st.r1.length + st.mem.length
def Sto.mv (st : Sto) (c : D) : D := (lkM st.mem (nkOf c)).getD (.int 0)
open Classical in
/-- what was written last to a cell -/
noncomputable def lastW (c : D) : D → List (D × D) → D
  | z, [] => z
  | z, p :: l => lastW c (if p.1 = c then p.2 else z) l
noncomputable def Sto.rd (st : Sto) (side : Int) (c : D) : D := lastW c (st.mv c) (st.row side)
def Sto.write (st : Sto) (side : Int) (c w : D) : Sto := st.setRow side (st.row side ++ [(c, w)])
def putM (m : List (D × D) × Nat) (p : D × D) : List (D × D) × Nat := (ptM m.1 (nkOf p.1) p.1 p.2, if (lkM m.1 (nkOf p.1)).isSome = true then m.2 else m.2 + 1)
def Sto.putMem (st : Sto) (p : D × D) : Sto := { st with mem := (putM (st.mem, st.ep) p).1, ep := (putM (st.mem, st.ep) p).2 }
/-- all of a row put into the memory -/
def Sto.fence (st : Sto) (side : Int) : Sto := (st.row side).foldl Sto.putMem (st.setRow side [])
open Classical in
noncomputable def Sto.cells (st : Sto) : List D := (st.mem.filter fun p => decide (p.2 ≠ .int 0)).map (·.1)
def Sto0 : Sto := ⟨[], 0, [], []⟩
/-- rows of plain data -/
def PlR (l : List (D × D)) : Prop := ∀ p ∈ l, Pl 6 p.1 = true ∧ Pl 6 p.2 = true
theorem PlR.tail {p : D × D} {l : List (D × D)} (h : PlR (p :: l)) : PlR l := fun x hx => h x (List.mem_cons_of_mem _ hx)
theorem PlR.app {l m : List (D × D)} (h : PlR l) (k : PlR m) : PlR (l ++ m) := fun x hx => (List.mem_append.mp hx).elim (h x) (k x)
theorem PlR.one {c w : D} (hc : Pl 6 c = true) (hw : Pl 6 w = true) : PlR [(c, w)] := fun x hx => by rw [List.mem_singleton.mp hx]; exact ⟨hc, hw⟩
theorem PlR.nil : PlR [] := fun _ h => (nomatch h)
structure OkSt (st : Sto) : Prop where
  p0 : PlR st.r0
  p1 : PlR st.r1
  pm : PlR st.mem
  nd : (st.mem.map (·.1)).Nodup
def Side (i : Int) : Prop := i = 0 ∨ i = 1
theorem OkSt.row {st : Sto} (h : OkSt st) (side : Int) : PlR (st.row side) := by
  unfold Sto.row; split
  · exact h.p0
  · exact h.p1
theorem OkSt.setRow {st : Sto} (h : OkSt st) {side : Int} {l : List (D × D)} (hl : PlR l) : OkSt (st.setRow side l) := by
  unfold Sto.setRow; split
  · exact ⟨hl, h.p1, h.pm, h.nd⟩
  · exact ⟨h.p0, hl, h.pm, h.nd⟩
theorem OkSt.write {st : Sto} (h : OkSt st) {side : Int} {c w : D} (hc : Pl 6 c = true) (hw : Pl 6 w = true) : OkSt (st.write side c w) :=
  h.setRow fun p hp => by
    rcases List.mem_append.mp hp with z | z
    · exact h.row side p z
    · rw [List.mem_singleton.mp z]; exact ⟨hc, hw⟩
theorem OkSt.putMem {st : Sto} (h : OkSt st) {p : D × D} (hp : Pl 6 p.1 = true ∧ Pl 6 p.2 = true) : OkSt (st.putMem p) := by
  refine ⟨h.p0, h.p1, fun x hx => ?_, ptM_nodup hp.1 h.nd fun x hx => (h.pm x hx).1⟩
  rcases ptM_mem hx with ⟨w, m, e⟩ | rfl
  · have := h.pm _ m
    rcases e with e | e <;> rw [e]
    · exact this
    · exact ⟨this.1, hp.2⟩
  · exact hp
theorem Sto0.ok : OkSt Sto0 := ⟨fun p h => (nomatch h), fun p h => (nomatch h), fun p h => (nomatch h), List.nodup_nil⟩
theorem mv_put {st : Sto} {c w d : D} (hc : Pl 6 c = true) (hd : Pl 6 d = true) [Decidable (d = c)] : (st.putMem (c, w)).mv d = if d = c then w else st.mv d := by
  show (lkM (ptM st.mem (nkOf c) c w) (nkOf d)).getD (.int 0) = _
  rw [lkM_put _ _ _ _ _ (Pl_keyD hc)]
  by_cases e : d = c
  · subst e; simp
  · have : ¬ nkOf d = nkOf c := fun z => e (nk_inj hd hc z)
    simp [e, this, Sto.mv]
/-- a store stands at r -/
structure StAt (s : HS) (r : Nat) (st : Sto) : Prop where
  o : s.h r = some (.ins "Store" [("worths", .ref (r + 1)), ("rows", .lst [.ref (r + 2), .ref (r + 3)])])
  m : s.h (r + 1) = some (.mix st.mem st.ep)
  a : s.h (r + 2) = some (.lst (st.r0.map tp))
  b : s.h (r + 3) = some (.lst (st.r1.map tp))
  n : r + 3 < s.n
  ok : OkSt st
abbrev stW (r : Nat) : Nat → Prop := fun m => r < m ∧ m < r + 4
theorem StAt.fr {W : Nat → Prop} {s s' : HS} {r : Nat} {st : Sto} (h : StAt s r st) (f : Fr W s s') (hw : ∀ m, r ≤ m → m < r + 4 → ¬ W m) : StAt s' r st := by
  have n := h.n
  exact ⟨(f.h r (by omega) (hw _ (by omega) (by omega))).trans h.o, (f.h _ (by omega) (hw _ (by omega) (by omega))).trans h.m, (f.h _ (by omega) (hw _ (by omega) (by omega))).trans h.a, (f.h _ (by omega) (hw _ (by omega) (by omega))).trans h.b, Nat.lt_of_lt_of_le n f.n, h.ok⟩
theorem StAt.row {s : HS} {r : Nat} {st : Sto} (h : StAt s r st) {side : Int} (hs : Side side) : ∃ k, atI [D.ref (r + 2), D.ref (r + 3)] side = some (.ref k) ∧ s.h k = some (.lst ((st.row side).map tp)) ∧ (k = r + 2 ∧ side = 0 ∨ k = r + 3 ∧ side = 1) := by
  rcases hs with rfl | rfl
  · exact ⟨r + 2, by simp, h.a, .inl ⟨rfl, rfl⟩⟩
  · exact ⟨r + 3, by simp, h.b, .inr ⟨rfl, rfl⟩⟩
theorem StAt.put {s : HS} {r k : Nat} {st : Sto} (h : StAt s r st) {side : Int} (hk : k = r + 2 ∧ side = 0 ∨ k = r + 3 ∧ side = 1) {l : List (D × D)} (hl : PlR l) : StAt (s.put k (.lst (l.map tp))) r (st.setRow side l) := by
  have n := h.n
  rcases hk with ⟨rfl, rfl⟩ | ⟨rfl, rfl⟩
  · exact ⟨by rw [put_ne (by omega)]; exact h.o, by rw [put_ne (by omega)]; exact h.m, put_same, by rw [put_ne (by omega)]; exact h.b, n, h.ok.setRow hl⟩
  · exact ⟨by rw [put_ne (by omega)]; exact h.o, by rw [put_ne (by omega)]; exact h.m, by rw [put_ne (by omega)]; exact h.a, put_same, n, h.ok.setRow hl⟩
theorem lk_rows (a b : D) : List.lookup ("rows" : Str) [(("worths" : Str), a), (("rows" : Str), b)] = some b := rfl
theorem lk_worths (a b : D) : List.lookup ("worths" : Str) [(("worths" : Str), a), (("rows" : Str), b)] = some a := rfl
section
variable {s : HS} {r : Nat} {st : Sto}
theorem meS (h : StAt s r st) {m : Str} {sd : Sl} (g : SA) (F : FN) (hm : List.lookup m [(("worths" : Str), D.ref (r + 1)), (("rows" : Str), .lst [.ref (r + 2), .ref (r + 3)])] = none) : kMe "Store" m g F sd (.ref r) s = (g sd s).bind (kMe2 F r) := k_Me h.o m g F hm
theorem me_write (h : StAt s r st) {sd : Sl} (g : SA) (F : FN) : kMe "Store" "write" g F sd (.ref r) s = (g sd s).bind (kMe2 F r) := meS h g F rfl
theorem me_read (h : StAt s r st) {sd : Sl} (g : SA) (F : FN) : kMe "Store" "read" g F sd (.ref r) s = (g sd s).bind (kMe2 F r) := meS h g F rfl
theorem me_memory (h : StAt s r st) {sd : Sl} (g : SA) (F : FN) : kMe "Store" "memory" g F sd (.ref r) s = (g sd s).bind (kMe2 F r) := meS h g F rfl
theorem me_drain (h : StAt s r st) {sd : Sl} (g : SA) (F : FN) : kMe "Store" "drain" g F sd (.ref r) s = (g sd s).bind (kMe2 F r) := meS h g F rfl
theorem me_fence (h : StAt s r st) {sd : Sl} (g : SA) (F : FN) : kMe "Store" "fence" g F sd (.ref r) s = (g sd s).bind (kMe2 F r) := meS h g F rfl
theorem me_waits (h : StAt s r st) {sd : Sl} (g : SA) (F : FN) : kMe "Store" "waits" g F sd (.ref r) s = (g sd s).bind (kMe2 F r) := meS h g F rfl
theorem me_cells (h : StAt s r st) {sd : Sl} (g : SA) (F : FN) : kMe "Store" "cells" g F sd (.ref r) s = (g sd s).bind (kMe2 F r) := meS h g F rfl
theorem g_rows (h : StAt s r st) : oGetF "Store" "rows" (.ref r) s = .ok (.lst [.ref (r + 2), .ref (r + 3)]) s := by
  rw [o_getF h.o, lk_rows]
theorem g_worths (h : StAt s r st) : oGetF "Store" "worths" (.ref r) s = .ok (.ref (r + 1)) s := by
  rw [o_getF h.o, lk_worths]
theorem size_row (st : Sto) (side : Int) : (st.row side).length ≤ st.size := by
  unfold Sto.row Sto.size; split <;> omega
theorem init_spec : ∃ s', F_Store_init [.ref s.n] (s.new (.ins "Store" [])) = .ok .non s' ∧ StAt s' s.n Sto0 ∧ s'.n = s.n + 4 ∧ ∀ m, m < s.n → s'.h m = s.h m := by
  refine ⟨((((((s.new (.ins "Store" [])).new (.mix [] 0)).put s.n (.ins "Store" [(("worths" : Str), .ref (s.n + 1))])).new (.lst [])).new (.lst [])).put s.n (.ins "Store" [(("worths" : Str), .ref (s.n + 1)), (("rows" : Str), .lst [.ref (s.n + 2), .ref (s.n + 3)])])), ?_, ?_, rfl, ?_⟩
  · unfold F_Store_init f_Store_init
    have k1 : ∀ (sd : Sl) (d : D), kF2 "Store" "worths" sd d (.ref s.n) ((s.new (.ins "Store" [])).new (.mix [] 0)) = .nx sd (((s.new (.ins "Store" [])).new (.mix [] 0)).put s.n (.ins "Store" [(("worths" : Str), d)])) := by
      intro sd d
      rw [k_F2 (fs := []) (by rw [new_ne (by simp)]; exact new_same), if_pos (by simp)]; rfl
    have k2 : ∀ (sd : Sl) (d : D), kF2 "Store" "rows" sd d (.ref s.n) ((((((s.new (.ins "Store" [])).new (.mix [] 0)).put s.n (.ins "Store" [(("worths" : Str), .ref (s.n + 1))])).new (.lst [])).new (.lst []))) = .nx sd (((((((s.new (.ins "Store" [])).new (.mix [] 0)).put s.n (.ins "Store" [(("worths" : Str), .ref (s.n + 1))])).new (.lst [])).new (.lst []))).put s.n (.ins "Store" [(("worths" : Str), .ref (s.n + 1)), (("rows" : Str), d)])) := by
      intro sd d
      rw [k_F2 (fs := [(("worths" : Str), .ref (s.n + 1))]) (by rw [new_ne (by simp only [new_n, put_n]; omega), new_ne (by simp only [new_n, put_n]; omega)]; exact put_same), if_pos (by simp)]; rfl
    simp (disch := walk_at "d") [k1, k2]
  · refine ⟨put_same, ?_, ?_, ?_, by simp, Sto0.ok⟩
    · rw [put_ne (by omega), new_ne (by simp), new_ne (by simp), put_ne (by omega)]; exact new_same
    · rw [put_ne (by omega), new_ne (by simp)]; exact new_same
    · rw [put_ne (by omega)]; exact new_same
  · intro m hm
    rw [put_ne (by omega), new_ne (by simp only [new_n, put_n]; omega), new_ne (by simp only [new_n, put_n]; omega), put_ne (by omega), new_ne (by simp only [new_n, put_n]; omega), new_ne (by omega)]
theorem write_spec (h : StAt s r st) {side : Int} (hs : Side side) {c w : D} (hc : Pl 6 c = true) (hw : Pl 6 w = true) (hz : st.size < 1000000) : ∃ s', F_Store_write [.ref r, .int side, c, w] s = .ok .non s' ∧ StAt s' r (st.write side c w) ∧ Fr (stW r) s s' ∧ s'.n = s.n := by
  obtain ⟨k, e1, e2, hk⟩ := h.row hs
  have z := size_row st side
  refine ⟨s.put k (.lst ((st.row side ++ [(c, w)]).map tp)), ?_, h.put hk fun p hp => ?_, Fr.put fun _ => by show r < k ∧ k < r + 4; omega, rfl⟩
  · unfold F_Store_write f_Store_write
    simp (disch := walk_at "d") [g_rows h, e1, getL_ref e2, o_app e2, tp]
  · rcases List.mem_append.mp hp with z | z
    · exact h.ok.row side p z
    · rw [List.mem_singleton.mp z]; exact ⟨hc, hw⟩
theorem memory_spec (h : StAt s r st) {c : D} (hc : Pl 6 c = true) : F_Store_memory [.ref r, c] s = .ok (st.mv c) s := by
  unfold F_Store_memory f_Store_memory
  simp (disch := walk_at "d") [g_worths h, k_Mg1 h.m, k_Mg3 h.m, Pl_keyM hc, Sto.mv]
theorem Pl8 {d : D} (h : Pl 6 d = true) : Pl 8 d = true := Pl_le h (by omega)
theorem Pl7 {d : D} (h : Pl 6 d = true) : Pl 7 d = true := Pl_le h (by omega)
theorem read_spec (h : StAt s r st) {side : Int} (hs : Side side) {c : D} (hc : Pl 6 c = true) : F_Store_read [.ref r, .int side, c] s = .ok (st.rd side c) s := by
  classical
  obtain ⟨k, e1, e2, hk⟩ := h.row hs
  obtain ⟨sd', s', e, ps, hps, hpl, l2, c3, ⟨z, c4, hz⟩, rfl⟩ := forL_nx (r := ⟨(st.row side).map tp, [(k, .lst ((st.row side).map tp))]⟩) (t := tgT [4, 5]) (b := L_Store_read_1)
    (fun ds sd s2 => ∃ ps, ds = ps.map tp ∧ PlR ps ∧ sd.length = 6 ∧ slot sd 2 = some c ∧ (∃ z, slot sd 3 = some z ∧ lastW c z ps = st.rd side c) ∧ s2 = s)
    (by
      rintro ds sd s2 ⟨ps, _, _, _, _, _, rfl⟩ p hp
      rw [List.mem_singleton.mp hp]; exact e2)
    (by
      rintro d rest sd s2 ⟨ps, hps, hpl, l, c2, ⟨z, c3, hz⟩, rfl⟩
      cases ps with
      | nil => cases hps
      | cons p ps =>
        obtain ⟨rfl, rfl⟩ := List.cons.inj hps
        refine ⟨(sd.set 4 (some p.1)).set 5 (some p.2), by simp [tp], ?_⟩
        unfold L_Store_read_1
        have hp := hpl p List.mem_cons_self
        rw [lastW] at hz
        by_cases q : p.1 = c
        · have E : oEq false p.1 c s2 = .ok (.bl true) s2 := by rw [o_eqPl false (Pl8 hp.1) (Pl8 hc), decide_eq_true q]; rfl
          rw [if_pos q] at hz
          simp (disch := walk_at "d") [l, c2, E]
          exact ⟨ps, rfl, hpl.tail, hz⟩
        · have E : oEq false p.1 c s2 = .ok (.bl false) s2 := by rw [o_eqPl false (Pl8 hp.1) (Pl8 hc), decide_eq_false q]; rfl
          rw [if_neg q] at hz
          simp (disch := walk_at "d") [l, c2, E, c3]
          exact ⟨ps, rfl, hpl.tail, hz⟩)
    ((st.row side).map tp) [some (.ref r), some (.int side), some c, some (st.mv c), none, none] s ⟨st.row side, rfl, h.ok.row side, rfl, rfl, ⟨_, rfl, rfl⟩, rfl⟩
  have : ps = [] := List.map_eq_nil_iff.mp hps.symm
  subst this
  have hz : z = st.rd side c := hz
  subst hz
  unfold F_Store_read f_Store_read
  simp (disch := walk_at "d") [me_memory h, memory_spec h hc, g_rows h, e1, srcL_ref e2, e, c4]
theorem drain_no (h : StAt s r st) {side : Int} (hs : Side side) (he : st.row side = []) : F_Store_drain [.ref r, .int side] s = .exc "NoDeed" s := by
  obtain ⟨k, e1, e2, hk⟩ := h.row hs
  rw [he] at e2
  have E : oEq false (.ref k) (.lst []) s = .ok (.bl (!false)) s := o_eqSame false (toP_ref 7 k e2) (toP_lst 7 [])
  unfold F_Store_drain f_Store_drain
  simp (disch := walk_at "d") [g_rows h, e1, E]
theorem drain_spec (h : StAt s r st) {side : Int} (hs : Side side) {p : D × D} {l : List (D × D)} (he : st.row side = p :: l) (hz : st.size < 1000000) : ∃ s', F_Store_drain [.ref r, .int side] s = .ok .non s' ∧ StAt s' r ((st.putMem p).setRow side l) ∧ Fr (stW r) s s' ∧ s'.n = s.n := by
  obtain ⟨k, e1, e2, hk⟩ := h.row hs
  have hp := h.ok.row side
  rw [he] at e2 hp
  have E : oEq false (.ref k) (.lst []) s = .ok (.bl false) s := by
    rw [o_eqPls false (xs := (p :: l).map tp) (ys := []) (toP_refPl e2 (fun d hd => ?_)) (toP_lstPl (n := 7) (by simp)) (fun d hd => ?_) (by simp)]
    · simp
    all_goals
      obtain ⟨x, hx, rfl⟩ := List.mem_map.mp hd
      have := hp x hx
      simp [tp, Pl, this.1, this.2, Pl7 this.1, Pl7 this.2]
  have n := h.n
  have h1 : (s.put k (.lst (l.map tp))).h (r + 1) = some (.mix st.mem st.ep) := by rw [put_ne (by omega)]; exact h.m
  have h2 : StAt (s.put k (.lst (l.map tp))) r (st.setRow side l) := h.put hk (PlR.tail hp)
  have hsz : st.mem.length < sizeLine := by rw [sizeLine_eq]; unfold Sto.size at hz; omega
  refine ⟨(s.put k (.lst (l.map tp))).put (r + 1) (.mix (putM (st.mem, st.ep) p).1 (putM (st.mem, st.ep) p).2), ?_, ?_, (Fr.put fun _ => by show r < k ∧ k < r + 4; omega).trans (Fr.put fun _ => by show r < r + 1 ∧ r + 1 < r + 4; omega), rfl⟩
  · unfold F_Store_drain f_Store_drain
    simp (disch := walk_at "d") [g_rows h, g_worths h2, e1, E, getL_ref e2, o_pop0 e2, tp, k_Mp3 h1, Pl_keyM (hp p List.mem_cons_self).1, hsz, putM]
  · have e : (st.putMem p).setRow side l = (st.setRow side l).putMem p := by unfold Sto.setRow Sto.putMem; split <;> rfl
    have e3 : (putM (st.mem, st.ep) p) = putM ((st.setRow side l).mem, (st.setRow side l).ep) p := by unfold Sto.setRow; split <;> rfl
    rw [e, e3]
    exact ⟨by rw [put_ne (by omega)]; exact h2.o, put_same, by rw [put_ne (by omega)]; exact h2.a, by rw [put_ne (by omega)]; exact h2.b, n, h2.ok.putMem (hp p List.mem_cons_self)⟩
theorem waits_spec (h : StAt s r st) {side : Int} (hs : Side side) (hz : st.size < 1000000) : F_Store_waits [.ref r, .int side] s = .ok (.lst ((st.row side).map tp)) s := by
  obtain ⟨k, e1, e2, hk⟩ := h.row hs
  have z := size_row st side
  have E : oList false [.ref k] s = .ok (.lst ((st.row side).map tp)) s := by
    show (match getL s (.ref k) with
      | some ds => mkL false ds s
      | none => .bad) = _
    rw [getL_ref e2]
    exact mkL_f _ (by rw [List.length_map]; omega)
  unfold F_Store_waits f_Store_waits
  simp (disch := walk_at "d") [g_rows h, e1, E]
theorem row_set (st : Sto) (side : Int) (l : List (D × D)) : (st.setRow side l).row side = l := by
  unfold Sto.setRow Sto.row; split <;> simp [*]
theorem set_set (st : Sto) (side : Int) (a b : List (D × D)) : (st.setRow side a).setRow side b = st.setRow side b := by
  unfold Sto.setRow; split <;> simp [*]
theorem row_put (st : Sto) (side : Int) (p : D × D) : (st.putMem p).row side = st.row side := rfl
theorem set_put (st : Sto) (side : Int) (p : D × D) (l : List (D × D)) : (st.putMem p).setRow side l = (st.setRow side l).putMem p := by
  unfold Sto.setRow Sto.putMem; split <;> rfl
theorem set_self (st : Sto) (side : Int) : st.setRow side (st.row side) = st := by
  unfold Sto.setRow Sto.row; split <;> simp [*]
theorem size_set (st : Sto) (side : Int) (l : List (D × D)) : (st.setRow side l).size + (st.row side).length = st.size + l.length := by
  unfold Sto.setRow Sto.row Sto.size; split <;> (simp [*]; omega)
theorem size_putMem (st : Sto) (p : D × D) : (st.putMem p).size ≤ st.size + 1 := by
  have := ptM_len st.mem (nkOf p.1) p.1 p.2
  show st.r0.length + st.r1.length + (ptM st.mem (nkOf p.1) p.1 p.2).length ≤ st.r0.length + st.r1.length + st.mem.length + 1
  omega
theorem size_drain {st : Sto} {side : Int} {p : D × D} {l : List (D × D)} (h : st.row side = p :: l) : ((st.putMem p).setRow side l).size ≤ st.size := by
  rw [set_put]
  have h1 := size_putMem (st.setRow side l) p
  have h2 := size_set st side l
  rw [h, List.length_cons] at h2
  omega
theorem size_write (st : Sto) (side : Int) (c w : D) : (st.write side c w).size = st.size + 1 := by
  have := size_set st side (st.row side ++ [(c, w)])
  unfold Sto.write
  rw [List.length_append, List.length_singleton] at this
  omega
theorem size_foldl : ∀ (l : List (D × D)) (st : Sto), (l.foldl Sto.putMem st).size ≤ st.size + l.length
  | [], st => by simp
  | p :: l, st => by
    have h1 := size_foldl l (st.putMem p)
    have h2 := size_putMem st p
    rw [List.foldl_cons, List.length_cons]; omega
theorem size_fence (st : Sto) (side : Int) : (st.fence side).size ≤ st.size := by
  have h1 := size_foldl (st.row side) (st.setRow side [])
  have h2 := size_set st side []
  unfold Sto.fence
  simp at h2; omega
theorem fence_nil {st : Sto} {side : Int} (h : st.row side = []) : st.fence side = st := by
  unfold Sto.fence; rw [h]
  show st.setRow side [] = st
  rw [← h]; exact set_self st side
theorem fence_cons {st : Sto} {side : Int} {p : D × D} {l : List (D × D)} (h : st.row side = p :: l) : st.fence side = ((st.putMem p).setRow side l).fence side := by
  unfold Sto.fence
  rw [h, row_set, set_set, List.foldl_cons, set_put]
theorem row_foldl (side : Int) : ∀ (l : List (D × D)) (st : Sto), (l.foldl Sto.putMem st).row side = st.row side
  | [], _ => rfl
  | p :: l, st => by rw [List.foldl_cons, row_foldl side l]; rfl
theorem row_fence (st : Sto) (side : Int) : (st.fence side).row side = [] := by
  unfold Sto.fence; rw [row_foldl, row_set]
theorem row_set_ne (st : Sto) {side side' : Int} (h : Side side) (h' : Side side') (ne : side' ≠ side) (l : List (D × D)) : (st.setRow side l).row side' = st.row side' := by
  unfold Sto.setRow Sto.row
  rcases h with rfl | rfl <;> rcases h' with rfl | rfl <;> first | exact absurd rfl ne | simp
theorem row_fence_ne (st : Sto) {side side' : Int} (h : Side side) (h' : Side side') (ne : side' ≠ side) : (st.fence side).row side' = st.row side' := by
  unfold Sto.fence; rw [row_foldl, row_set_ne st h h' ne]
theorem fence_spec (h : StAt s r st) {side : Int} (hs : Side side) (hz : st.size < 90000) : ∃ s', F_Store_fence [.ref r, .int side] s = .ok .non s' ∧ StAt s' r (st.fence side) ∧ Fr (stW r) s s' ∧ s'.n = s.n := by
  obtain ⟨sd', s', e, h', fr, n⟩ := whS_nx (c := W_Store_fence_1) (b := L_Store_fence_1)
    (fun m sd s' => ∃ st', StAt s' r st' ∧ st'.fence side = st.fence side ∧ st'.size ≤ st.size ∧ Fr (stW r) s s' ∧ s'.n = s.n ∧ m = (st'.row side).length ∧ sd = [some (.ref r), some (.int side)])
    (fun sd s' => StAt s' r (st.fence side) ∧ Fr (stW r) s s' ∧ s'.n = s.n)
    (by
      rintro m sd s1 ⟨st1, h1, e1, z1, f1, n1, rfl, rfl⟩
      obtain ⟨k, a1, a2, hk⟩ := h1.row hs
      cases q : st1.row side with
      | nil =>
        rw [q] at a2
        have E : oEq true (.ref k) (.lst []) s1 = .ok (.bl (!true)) s1 := o_eqSame true (toP_ref 7 k a2) (toP_lst 7 [])
        refine .inl ⟨s1, ?_, ?_, f1, n1⟩
        · unfold W_Store_fence_1
          simp (disch := walk_at "d") [g_rows h1, a1, E]
        · rw [← e1, fence_nil q]; exact h1
      | cons p l =>
        have hp := h1.ok.row side
        rw [q] at a2 hp
        have E : oEq true (.ref k) (.lst []) s1 = .ok (.bl true) s1 := by
          rw [o_eqPls true (xs := (p :: l).map tp) (ys := []) (toP_refPl a2 (fun d hd => ?_)) (toP_lstPl (n := 7) (by simp)) (fun d hd => ?_) (by simp)]
          · simp
          all_goals
            obtain ⟨x, hx, rfl⟩ := List.mem_map.mp hd
            have := hp x hx
            simp [tp, Pl, this.1, this.2, Pl7 this.1, Pl7 this.2]
        obtain ⟨s2, b1, b2, b3, b4⟩ := drain_spec h1 hs q (by omega)
        refine .inr ⟨s1, ?_, ?_⟩
        · unfold W_Store_fence_1
          simp (disch := walk_at "d") [g_rows h1, a1, E]
        · have r1 : L_Store_fence_1 [some (.ref r), some (.int side)] s1 = .nx [some (.ref r), some (.int side)] s2 := by
            unfold L_Store_fence_1
            simp (disch := walk_at "d") [me_drain h1, b1]
          rw [r1]
          exact ⟨l.length, by simp, _, b2, (fence_cons q).symm.trans e1, Nat.le_trans (size_drain q) z1, f1.trans b3, b4.trans n1, by rw [row_set], rfl⟩)
    100000 (st.row side).length [some (.ref r), some (.int side)] s (by have := size_row st side; omega) ⟨st, h, rfl, Nat.le_refl _, Fr.refl, rfl, rfl, rfl⟩
  refine ⟨s', ?_, h', fr, n⟩
  unfold F_Store_fence f_Store_fence
  simp [e]
theorem lkM_self : ∀ {kvs : List (D × D)}, (kvs.map (·.1)).Nodup → (∀ p ∈ kvs, Pl 6 p.1 = true) → ∀ p ∈ kvs, lkM kvs (nkOf p.1) = some p.2
  | [], _, _, p, h => (nomatch h)
  | x :: l, hn, hp, p, h => by
    rw [List.map_cons, List.nodup_cons] at hn
    unfold lkM
    rw [List.find?_cons]
    rcases List.mem_cons.mp h with rfl | h
    · rw [Pl_keyD (hp p List.mem_cons_self)]; simp
    · have : ¬ keyD x.1 = some (nkOf p.1) := fun e => hn.1 (List.mem_map.mpr ⟨p, h, (keyD_inj x.1 p.1 _ e (Pl_keyD (hp p (List.mem_cons_of_mem _ h)))).symm⟩)
      rw [decide_eq_false this]
      exact lkM_self hn.2 (fun y hy => hp y (List.mem_cons_of_mem _ hy)) p h
theorem cells_spec (h : StAt s r st) (hz : st.size < 1000000) : F_Store_cells [.ref r] s = .ok (.lst st.cells) s := by
  classical
  have hm : st.mem.length ≤ st.size := by unfold Sto.size; omega
  obtain ⟨acc', s', e, ps, q, ps2, q2, q3, rfl⟩ := compL_ind (r := ⟨st.mem.map (·.1), [(r + 1, .mix st.mem st.ep)]⟩) (t := tgN 1) (tt := tb (b2 (b2 (fld "Store" "worths" (v_ 0)) (v_ 1) oMGet) (c_ (.int 0)) (oEq true))) (el := v_ 1) (sd0 := [some (.ref r), none])
    (fun ds acc s' => ∃ ps ps2, st.mem = ps2 ++ ps ∧ ds = ps.map (·.1) ∧ acc = ((ps2.filter fun p => decide (p.2 ≠ .int 0)).map (·.1)) ∧ s' = s)
    (by
      rintro ds acc s2 ⟨ps, ps2, _, _, _, rfl⟩ p hp
      rw [List.mem_singleton.mp hp]; exact h.m)
    (by
      rintro d rest acc s2 ⟨ps, ps2, q1, q2, q3, rfl⟩
      cases ps with
      | nil => cases q2
      | cons p ps =>
        obtain ⟨rfl, rfl⟩ := List.cons.inj q2
        have hp : p ∈ st.mem := by rw [q1]; simp
        have hpl := h.ok.pm p hp
        have lk := lkM_self h.ok.nd (fun x hx => (h.ok.pm x hx).1) p hp
        have E : oEq true p.2 (.int 0) s2 = .ok (.bl (decide (p.2 = .int 0) != true)) s2 := o_eqPl true (Pl8 hpl.2) rfl
        refine ⟨_, rfl, ?_⟩
        by_cases z : p.2 = .int 0
        · refine .inl ⟨s2, ?_, ps, ps2 ++ [p], by rw [q1]; simp, rfl, ?_, rfl⟩
          · rw [decide_eq_true z] at E
            simp (disch := walk_at "d") [g_worths h, o_mget h.m, Pl_keyM hpl.1, lk, E]
          · rw [q3, List.filter_append, List.filter_cons, if_neg (by simp [z])]; simp
        · refine .inr ⟨s2, ?_, p.1, s2, rfl, ?_, ps, ps2 ++ [p], by rw [q1]; simp, rfl, ?_, rfl⟩
          · rw [decide_eq_false z] at E
            simp (disch := walk_at "d") [g_worths h, o_mget h.m, Pl_keyM hpl.1, lk, E]
          · rw [q3, List.length_map]
            have h1 := List.length_filter_le (fun p : D × D => decide (p.2 ≠ .int 0)) ps2
            have h2 : st.mem.length = ps2.length + (ps.length + 1) := by rw [q1]; simp
            omega
          · rw [q3, List.filter_append, List.filter_cons, if_pos (by simp [z])]; simp)
    (st.mem.map (·.1)) [] s ⟨st.mem, [], rfl, rfl, rfl, rfl⟩
  have z : ps = [] := List.map_eq_nil_iff.mp q2.symm
  subst z
  have z : acc' = st.cells := by unfold Sto.cells; rw [q3, ps2]; simp
  subst z
  have hl : st.cells.length ≤ 16777216 := by
    unfold Sto.cells
    rw [List.length_map]
    have h1 := List.length_filter_le (fun p : D × D => decide (p.2 ≠ .int 0)) st.mem
    omega
  unfold F_Store_cells f_Store_cells
  simp (disch := walk_at "d") [g_worths h, k_ItM h.m, e, hl]
end
theorem lastW_app (c z : D) : ∀ (l m : List (D × D)), lastW c z (l ++ m) = lastW c (lastW c z l) m := by
  intro l m
  induction l generalizing z with
  | nil => rfl
  | cons p l ih => rw [List.cons_append, lastW, lastW, ih]
theorem mv_foldl {c : D} (hc : Pl 6 c = true) : ∀ (l : List (D × D)) (st : Sto), PlR l → (l.foldl Sto.putMem st).mv c = lastW c (st.mv c) l
  | [], _, _ => rfl
  | p :: l, st, h => by
    classical
    rw [List.foldl_cons, mv_foldl hc l _ h.tail, lastW]
    congr 1
    obtain ⟨a, b⟩ := p
    rw [mv_put (h _ List.mem_cons_self).1 hc]
    by_cases e : c = a
    · rw [if_pos e, if_pos e.symm]
    · rw [if_neg e, if_neg (Ne.symm e)]
theorem mv_set (st : Sto) (side : Int) (l : List (D × D)) (c : D) : (st.setRow side l).mv c = st.mv c := by unfold Sto.setRow Sto.mv; split <;> rfl
theorem mv_fence {st : Sto} (h : OkSt st) {c : D} (hc : Pl 6 c = true) (side : Int) : (st.fence side).mv c = st.rd side c := by
  unfold Sto.fence Sto.rd
  rw [mv_foldl hc _ _ (h.row side), mv_set]
theorem Side.flip {side : Int} (h : Side side) : Side (1 - side) := by rcases h with rfl | rfl <;> simp [Side]
@[simp] theorem Pl_int (n : Nat) (i : Int) : Pl n (.int i) = true := by cases n <;> rfl
@[simp] theorem Pl_lit (n : Nat) (x : String) : Pl n (.str (Str.ofString x)) = true := by
  have : Pl n (.str (Str.ofString x)) = PyData.strOk (Str.ofString x) := by cases n <;> rfl
  rw [this]; exact strOk_of x
@[simp] theorem Pl_tup (n : Nat) (ds : List D) : Pl (n + 1) (.tup ds) = ds.all (Pl n) := rfl
end DL
end
section
namespace DL
open PySem PySem.Spec PyProof.Rows L2
noncomputable def f_cell : SS :=
  (seq (setS 1 (lstE false (acons (c_ (.str "asked")) (acons (c_ (.str "handed")) (acons (c_ (.str "taken")) (acons (c_ (.str "answered")) (acons (c_ (.str "hand sleeps")) (acons (c_ (.str "heart sleeps")) (acons (c_ (.str "a")) (acons (c_ (.str "b")) (acons (c_ (.str "aa")) (acons (c_ (.str "ask 0")) (acons (c_ (.str "ask")) anil)))))))))))))
  (seq (setS 1 (b2 (v_ 1) (lstE false (acons (c_ (.str "")) (acons (c_ (.str " ask")) anil))) (oAdd false)))
  (seq (setS 2 (b2 (lstE false (acons (bN (acons (v_ 0) (acons (c_ (.int 8)) anil)) (callD 2 F_take)) (acons (bN (acons (v_ 0) (acons (c_ (.int 2)) anil)) (callD 2 F_take)) anil))) (bN (acons (v_ 0) (acons (c_ (.int 2)) anil)) (callD 2 F_take)) oIx))
  (seq (setS 3 (lstE true (acons (b2 (v_ 1) (bN (acons (v_ 0) (acons (c_ (.int 13)) anil)) (callD 2 F_take)) oIx) (acons (tupE (acons (c_ (.str "ask")) (acons (v_ 2) anil))) (acons (tupE (acons (c_ (.str "answer")) (acons (v_ 2) anil))) (acons (b2 (v_ 1) (bN (acons (v_ 0) (acons (c_ (.int 2)) anil)) (callD 2 F_take)) oIx) (acons (tupE (acons (c_ (.str "ask")) (acons (c_ (.str "0")) anil))) anil)))))))
  (seq (exS (mth (v_ 3) (acons (b2 (lstE false (acons (tupE anil) (acons (tupE (acons (c_ (.str "asked")) anil)) (acons (tupE (acons (c_ (.str "ask")) (acons (tupE (acons (c_ (.int 0)) anil)) anil))) (acons (tupE (acons (c_ (.str "ask")) (acons (c_ (.int 0)) (acons (c_ (.int 0)) anil)))) anil))))) (bN (acons (v_ 0) (acons (c_ (.int 4)) anil)) (callD 2 F_take)) oIx) anil) oAppend))
  (retS (b2 (v_ 3) (bN (acons (v_ 0) (acons (c_ (.int 6)) anil)) (callD 2 F_take)) oIx)))))))
noncomputable def F_cell : FN := bodyD 4 f_cell
noncomputable def f_worth : SS :=
  (seq (setS 1 (b2 (bN (acons (v_ 0) (acons (b2 (b2 (c_ (.int 2)) (b2 (c_ (.int 10)) (c_ (.int 9)) oPow) (oMul false)) (c_ (.int 1)) (oAdd false)) anil)) (callD 2 F_take)) (b2 (c_ (.int 10)) (c_ (.int 9)) oPow) oSub))
  (retS (b2 (lstE false (acons (c_ (.int 0)) (acons (c_ (.int 1)) (acons (v_ 1) (acons (tupE (acons (bN (acons (v_ 0) (acons (c_ (.int 9)) anil)) (callD 2 F_take)) (acons (v_ 1) anil))) (acons (bN (acons (v_ 0) (acons (c_ (.int 4)) anil)) (callD 2 F_take)) (acons (b2 (c_ (.int 10)) (c_ (.int 9)) oPow) (acons (negE (b2 (c_ (.int 10)) (c_ (.int 9)) oPow)) anil)))))))) (bN (acons (v_ 0) (acons (c_ (.int 7)) anil)) (callD 2 F_take)) oIx)))
noncomputable def F_worth : FN := bodyD 2 f_worth
noncomputable def L_memory_1 : SS :=
  (ifS (tb (b2 (v_ 3) (v_ 1) (oEq false))) (setS 2 (v_ 4)) skip)
noncomputable def f_memory : SS :=
  (seq (setS 2 (c_ (.int 0)))
  (seq (forS (itL (v_ 0)) (tgT [3, 4]) L_memory_1)
  (retS (v_ 2))))
noncomputable def F_memory : FN := bodyD 5 f_memory
end DL
end
section
/-! SpC: drawing cells and worths; what was written last. -/
local macro_rules | `(tactic| walk_at "d") => `(tactic| first | omega | (simp only [List.length_cons, List.length_nil, List.length_append, List.length_map, List.length_take, List.length_drop]; omega) | (simp; done))
namespace DL
open PySem PySem.Spec PyProof.Rows L2
abbrev at1 (r : Nat) : Nat → Prop := fun m => m = r
theorem Only1.fr {r : Nat} {s s' : HS} (h : Only1 r s s') : Fr (at1 r) s s' := ⟨Nat.le_of_eq h.1.symm, fun m _ w => h.2 m w⟩
theorem Row.fr {W : Nat → Prop} {s s' : HS} {r : Nat} (h : Row s r) (hr : r < s.n) (f : Fr W s s') (hw : ¬ W r) : Row s' r := by
  obtain ⟨a, b, c, e, z⟩ := h
  exact ⟨a, b, c, (f.h r hr hw).trans e, z⟩
theorem take_fr {r : Nat} {s : HS} (h : Row s r) {m : Int} (hm : 0 < m ∧ m < 2 ^ 62) : ∃ v s', F_take [.ref r, .int m] s = .ok (.int v) s' ∧ 0 ≤ v ∧ v < m ∧ Row s' r ∧ Fr (at1 r) s s' ∧ s'.n = s.n := by
  obtain ⟨v, s', e, h1, h2, h3, h4⟩ := take_spec h hm
  exact ⟨v, s', e, h1, h2, h3, h4.fr, h4.1⟩
theorem stream_fr (c : Int) (s : HS) {W : Nat → Prop} : ∃ s', F_stream [.int c] s = .ok (.ref s.n) s' ∧ Row s' s.n ∧ s'.n = s.n + 1 ∧ Fr W s s' := by
  obtain ⟨s', e, h1, h2, h3⟩ := stream_spec c s
  exact ⟨s', e, h1, h2, ⟨by omega, fun m l _ => h3 m (by omega)⟩⟩
/-- an item of a list whose items keep to P -/
theorem atI_all {α : Type} {P : α → Prop} {ds : List α} {v : Int} (h0 : 0 ≤ v) (h : v < ds.length) (hp : ∀ d ∈ ds, P d) : ∃ d, atI ds v = some d ∧ P d := by
  obtain ⟨d, e, hd⟩ := atI_some h0 h
  exact ⟨d, e, hp d hd⟩
theorem cell_spec {r : Nat} {s : HS} (h : Row s r) (hr : r < s.n) : ∃ c s', F_cell [.ref r] s = .ok c s' ∧ Pl 6 c = true ∧ Row s' r ∧ Fr (at1 r) s s' := by
  obtain ⟨v1, s1, e1, a1, b1, R1, f1, n1⟩ := take_fr h (m := 8) (by decide)
  obtain ⟨v2, s2, e2, a2, b2, R2, f2, n2⟩ := take_fr R1 (m := 2) (by decide)
  obtain ⟨v3, s3, e3, a3, b3, R3, f3, n3⟩ := take_fr R2 (m := 2) (by decide)
  obtain ⟨p, g1, q1⟩ := atI_all (α := D) (P := fun d => ∃ i : Int, d = .int i) (ds := [.int v1, .int v2]) a3 (by simpa using b3) (by simp)
  obtain ⟨p, rfl⟩ := q1
  obtain ⟨v4, s4, e4, a4, b4, R4, f4, n4⟩ := take_fr R3 (m := 13) (by decide)
  obtain ⟨c1, g2, q2⟩ := atI_all (α := D) (P := fun d => Pl 6 d = true) (ds := [.str "asked", .str "handed", .str "taken", .str "answered", .str "hand sleeps", .str "heart sleeps", .str "a", .str "b", .str "aa", .str "ask 0", .str "ask", .str "", .str " ask"]) a4 (by simpa using b4) (by simp)
  obtain ⟨v5, s5, e5, a5, b5, R5, f5, n5⟩ := take_fr R4 (m := 2) (by decide)
  obtain ⟨c2, g3, q3⟩ := atI_all (α := D) (P := fun d => Pl 6 d = true) (ds := [.str "asked", .str "handed", .str "taken", .str "answered", .str "hand sleeps", .str "heart sleeps", .str "a", .str "b", .str "aa", .str "ask 0", .str "ask", .str "", .str " ask"]) a5 (by simp; omega) (by simp)
  have n5' : r < s5.n := by omega
  have R5' : Row (s5.new (.lst [c1, .tup [.str "ask", .int p], .tup [.str "answer", .int p], c2, .tup [.str "ask", .str "0"]])) r := R5.fr n5' (Fr.new (W := fun _ => False)) (fun z => z)
  obtain ⟨v6, s6, e6, a6, b6, R6, f6, n6⟩ := take_fr R5' (m := 4) (by decide)
  obtain ⟨c3, g4, q4⟩ := atI_all (α := D) (P := fun d => Pl 6 d = true) (ds := [.tup [], .tup [.str "asked"], .tup [.str "ask", .tup [.int 0]], .tup [.str "ask", .int 0, .int 0]]) a6 (by simpa using b6) (by simp)
  have k6 : s6.h s5.n = some (.lst [c1, .tup [.str "ask", .int p], .tup [.str "answer", .int p], c2, .tup [.str "ask", .str "0"]]) := (f6.h s5.n (by simp) (by show ¬ s5.n = r; omega)).trans new_same
  have R6' : Row (s6.put s5.n (.lst [c1, .tup [.str "ask", .int p], .tup [.str "answer", .int p], c2, .tup [.str "ask", .str "0"], c3])) r := R6.fr (by simp at n6; omega) (Fr.put (W := fun m => m = s5.n) fun _ => rfl) (by show ¬ r = s5.n; omega)
  obtain ⟨v7, s7, e7, a7, b7, R7, f7, n7⟩ := take_fr R6' (m := 6) (by decide)
  obtain ⟨c4, g5, q5⟩ := atI_all (α := D) (P := fun d => Pl 6 d = true) (ds := [c1, .tup [.str "ask", .int p], .tup [.str "answer", .int p], c2, .tup [.str "ask", .str "0"], c3]) a7 (by simpa using b7) (by simp [q2, q3, q4])
  have k7 : s7.h s5.n = some (.lst [c1, .tup [.str "ask", .int p], .tup [.str "answer", .int p], c2, .tup [.str "ask", .str "0"], c3]) := (f7.h s5.n (by simp at n6; simp [n6]) (by show ¬ s5.n = r; omega)).trans put_same
  refine ⟨c4, s7, ?_, q5, R7, ?_⟩
  · unfold F_cell f_cell
    simp (disch := walk_at "d") [e1, e2, e3, g1, e4, g2, e5, g3, getL_ref new_same, e6, g4, o_app k6, e7, o_ixR k7, g5]
  · have fa : Fr (at1 r) s s5 := f1.trans (f2.trans (f3.trans (f4.trans f5)))
    have fb : Fr (at1 r) s s6 := fa.trans (Fr.new.trans f6)
    refine (fb.tr (Fr.put (W := fun m => m = s5.n) fun _ => rfl) fun m hm z => ?_).trans f7
    have := fa.n
    omega
theorem worth_spec {r : Nat} {s : HS} (h : Row s r) (hr : r < s.n) : ∃ c s', F_worth [.ref r] s = .ok c s' ∧ Pl 6 c = true ∧ Row s' r ∧ Fr (at1 r) s s' := by
  obtain ⟨v1, s1, e1, a1, b1, R1, f1, n1⟩ := take_fr h (m := 2000000001) (by decide)
  obtain ⟨v2, s2, e2, a2, b2, R2, f2, n2⟩ := take_fr R1 (m := 9) (by decide)
  obtain ⟨v3, s3, e3, a3, b3, R3, f3, n3⟩ := take_fr R2 (m := 4) (by decide)
  obtain ⟨v4, s4, e4, a4, b4, R4, f4, n4⟩ := take_fr R3 (m := 7) (by decide)
  obtain ⟨c1, g2, q2⟩ := atI_all (α := D) (P := fun d => Pl 6 d = true) (ds := [.int 0, .int 1, .int (v1 - 1000000000), .tup [.int v2, .int (v1 - 1000000000)], .int v3, .int 1000000000, .int (-1000000000)]) a4 (by simpa using b4) (by simp)
  refine ⟨c1, s4, ?_, q2, R4, f1.trans (f2.trans (f3.trans f4))⟩
  unfold F_worth f_worth
  simp (disch := walk_at "d") [e1, e2, e3, e4, g2]
/-- a list that is told: a value, or an object -/
def Lis (s : HS) (x : D) (ds : List D) : Prop := x = .lst ds ∨ ∃ n, x = .ref n ∧ s.h n = some (.lst ds)
theorem Lis.src {s : HS} {x : D} {ds : List D} (h : Lis s x ds) : ∃ l, srcL s x = some (ds, l) ∧ (⟨ds, l⟩ : Src).same s := by
  rcases h with rfl | ⟨n, rfl, e⟩
  · exact ⟨[], rfl, same_nil⟩
  · exact ⟨[(n, .lst ds)], srcL_ref e, fun p hp => by rw [List.mem_singleton.mp hp]; exact e⟩
theorem Lis.get {s : HS} {x : D} {ds : List D} (h : Lis s x ds) : getL s x = some ds := by
  rcases h with rfl | ⟨n, rfl, e⟩
  · rfl
  · exact getL_ref e
theorem Lis.getR {s : HS} {x : D} {ds : List D} (h : Lis s x ds) : DL.getR s x = some ds := by
  rcases h with rfl | ⟨n, rfl, e⟩
  · rfl
  · exact getR_ref e
theorem lmemory_spec {s : HS} {x c : D} {ps : List (D × D)} (h : Lis s x (ps.map tp)) (hp : PlR ps) (hc : Pl 6 c = true) : F_memory [x, c] s = .ok (lastW c (.int 0) ps) s := by
  classical
  obtain ⟨live, e0, sm⟩ := h.src
  obtain ⟨sd', s', e, ps', hps, hpl, l2, c3, ⟨z, c4, hz⟩, rfl⟩ := forL_nx (r := ⟨ps.map tp, live⟩) (t := tgT [3, 4]) (b := L_memory_1)
    (fun ds sd s2 => ∃ qs, ds = qs.map tp ∧ PlR qs ∧ sd.length = 5 ∧ slot sd 1 = some c ∧ (∃ z, slot sd 2 = some z ∧ lastW c z qs = lastW c (.int 0) ps) ∧ s2 = s)
    (by
      rintro ds sd s2 ⟨qs, _, _, _, _, _, rfl⟩
      exact sm)
    (by
      rintro d rest sd s2 ⟨qs, hps, hpl, l, c2, ⟨z, c3, hz⟩, rfl⟩
      cases qs with
      | nil => cases hps
      | cons p qs =>
        obtain ⟨rfl, rfl⟩ := List.cons.inj hps
        refine ⟨(sd.set 3 (some p.1)).set 4 (some p.2), by simp [tp], ?_⟩
        unfold L_memory_1
        have hp := hpl p List.mem_cons_self
        rw [lastW] at hz
        by_cases q : p.1 = c
        · have E : oEq false p.1 c s2 = .ok (.bl true) s2 := by rw [o_eqPl false (Pl8 hp.1) (Pl8 hc), decide_eq_true q]; rfl
          rw [if_pos q] at hz
          simp (disch := walk_at "d") [l, c2, E]
          exact ⟨qs, rfl, hpl.tail, hz⟩
        · have E : oEq false p.1 c s2 = .ok (.bl false) s2 := by rw [o_eqPl false (Pl8 hp.1) (Pl8 hc), decide_eq_false q]; rfl
          rw [if_neg q] at hz
          simp (disch := walk_at "d") [l, c2, E, c3]
          exact ⟨qs, rfl, hpl.tail, hz⟩)
    (ps.map tp) [some x, some c, some (.int 0), none, none] s ⟨ps, rfl, hp, rfl, rfl, ⟨_, rfl, rfl⟩, rfl⟩
  have : ps' = [] := List.map_eq_nil_iff.mp hps.symm
  subst this
  have hz : z = lastW c (.int 0) ps := hz
  subst hz
  unfold F_memory f_memory
  simp (disch := walk_at "d") [e0, e, c4]
theorem tp_inj {p q : D × D} (h : tp p = tp q) : p = q := by
  obtain ⟨a, b⟩ := p
  obtain ⟨c, d⟩ := q
  simpa [tp] using h
theorem tps_inj : ∀ {l m : List (D × D)}, l.map tp = m.map tp → l = m
  | [], [], _ => rfl
  | [], _ :: _, h => by cases h
  | _ :: _, [], h => by cases h
  | p :: l, q :: m, h => by
    rw [List.map_cons, List.map_cons] at h
    obtain ⟨h1, h2⟩ := List.cons.inj h
    rw [tp_inj h1, tps_inj h2]
theorem PlR.tps {l : List (D × D)} (h : PlR l) : ∀ d ∈ l.map tp, Pl 7 d = true := fun d hd => by
  obtain ⟨p, hp, rfl⟩ := List.mem_map.mp hd
  have := h p hp
  simp [tp, this.1, this.2]
open Classical in
theorem eq_rows (neg : Bool) {l m : List (D × D)} {x y : D} {s : HS} (hx : Lis s x (l.map tp)) (hy : Lis s y (m.map tp)) (hl : PlR l) (hm : PlR m) : oEq neg x y s = .ok (.bl (decide (l = m) != neg)) s := by
  have tx : ∀ {x : D} {l : List (D × D)}, Lis s x (l.map tp) → PlR l → toP 8 s x = some (.list (pds (l.map tp))) := by
    intro x l h hp
    rcases h with rfl | ⟨n, rfl, e⟩
    · exact toP_lstPl hp.tps
    · exact toP_refPl e hp.tps
  rw [o_eqPls neg (tx hx hl) (tx hy hm) (fun d hd => Pl_le (hl.tps d hd) (by omega)) (fun d hd => Pl_le (hm.tps d hd) (by omega))]
  have : (l.map tp = m.map tp) ↔ l = m := ⟨tps_inj, fun e => by rw [e]⟩
  by_cases e : l = m
  · rw [decide_eq_true e, decide_eq_true (this.mpr e)]
  · rw [decide_eq_false e, decide_eq_false fun z => e (this.mp z)]
theorem eq_rows_nil (neg : Bool) {l : List (D × D)} {x : D} {s : HS} (hx : Lis s x (l.map tp)) (hl : PlR l) : oEq neg x (.lst []) s = .ok (.bl (l.isEmpty != neg)) s := by
  classical
  have := eq_rows neg (m := []) (y := .lst []) hx (.inl rfl) hl PlR.nil
  rw [this]
  cases l <;> simp
theorem Lis.v {s : HS} {ds : List D} : Lis s (.lst ds) ds := .inl rfl
theorem Lis.r {s : HS} {n : Nat} {ds : List D} (h : s.h n = some (.lst ds)) : Lis s (.ref n) ds := .inr ⟨n, rfl, h⟩
@[simp] theorem o_addSL (b : Bool) (xs ys : List D) (s : HS) : oAdd b (.scr xs) (.lst ys) s = mkL b (xs ++ ys) s := rfl
@[simp] theorem o_addLS (b : Bool) (xs ys : List D) (s : HS) : oAdd b (.lst xs) (.scr ys) s = mkL b (xs ++ ys) s := rfl
theorem first_int (ns : List Int) : ∃ c : Int, atI (ns.map D.int ++ [.int 0]) 0 = some (.int c) := by
  cases ns with
  | nil => exact ⟨0, by simp⟩
  | cons n ns => exact ⟨n, by simp⟩
/-- a store is made -/
theorem make_store (s : HS) : ∃ s', kMk2 s.n (F_Store_init [.ref s.n] (s.new (.ins "Store" []))) = .ok (.ref s.n) s' ∧ StAt s' s.n Sto0 ∧ s'.n = s.n + 4 ∧ Fr (fun _ => False) s s' := by
  obtain ⟨s', e, h, n, f⟩ := init_spec (s := s)
  exact ⟨s', by rw [e, k_Mk2], h, n, ⟨by omega, fun m l _ => f m l⟩⟩
/-! ### parts of the script -/
theorem cut_ints (ns : List Int) (lo hi : Option Int) : ∀ d ∈ DL.cutD (ns.map D.int) lo hi, ∃ c, d = .int c := by
  intro d hd
  obtain ⟨c, _, rfl⟩ := List.mem_map.mp (List.mem_of_mem_drop (List.mem_of_mem_take hd))
  exact ⟨c, rfl⟩
theorem cut_len_to (xs : List D) (k : Nat) : (DL.cutD xs none (some (k : Int))).length ≤ k := by
  rw [cut_to xs k (by omega), List.length_take]; omega
theorem cut_len_mid (xs : List D) (i j : Nat) : (DL.cutD xs (some (i : Int)) (some (j : Int))).length ≤ j - i := by
  rw [cut_mid xs i j (by omega) (by omega), List.length_take]; omega
theorem cut_len (xs : List D) (lo hi : Option Int) : (DL.cutD xs lo hi).length ≤ xs.length := by
  unfold DL.cutD
  rw [List.length_take, List.length_drop]; omega
theorem cons_ints {L : List D} {P : D → Prop} (a : Int) (h : ∀ d ∈ L, ∃ c, d = D.int c) : ∀ d ∈ D.int a :: L, ∃ c, d = D.int c := by
  intro d hd
  rcases List.mem_cons.mp hd with rfl | hd
  · exact ⟨a, rfl⟩
  · exact h d hd
end DL
end
section
/-! PU5: ranges with a step, run. -/
namespace DL
open PySem PySem.Spec PyProof.Rows L2
def kR3 : List D → HS → Res Src := fun xs s1 => match xs with
  | [.int i, .int j, .int c] => if 0 < c ∧ c < 1000 ∧ Builtin.Range.small i j c = true then .ok ⟨rngC i c (if i < j then (j - i - 1) / c + 1 else 0).toNat, []⟩ s1 else .bad
  | _ => .bad
@[simp] theorem e_itR3 (g : SA) {sd : Sl} {s : HS} : itR3 g sd s = (g sd s).bind kR3 := (rfl)
end DL
end
section
/-! PU6: joins and keyed sorts, run. -/
namespace DL
open PySem PySem.Spec PyProof.Rows L2
def kJo2 (a : Str) (y : D) (s : HS) : Res D := match (getL s y).bind (allP strOf) with
  | some ys => if (ys.map (·.length)).sum + ys.length * a.length ≤ 16777216 then .ok (.str (Txt.join a ys)) s else .bad
  | none => .bad
def kJo (fe : SE) (sd : Sl) : D → HS → Res D := fun x s => match x with
  | .str a => (fe sd s).bind (kJo2 a)
  | _ => .bad
@[simp] theorem k_Jo (fe : SE) {sd : Sl} {s : HS} (a : Str) : kJo fe sd (.str a) s = (fe sd s).bind (kJo2 a) := (rfl)
@[simp] theorem e_joinE (fo fe : SE) {sd : Sl} {s : HS} : joinE fo fe sd s = (fo sd s).bind (kJo fe sd) := (rfl)
theorem k_Jo2 {a : Str} {y : D} {s : HS} {ds : List D} {ys : List Str} (h : getL s y = some ds) (h2 : allP strOf ds = some ys) (hz : (ys.map (·.length)).sum + ys.length * a.length ≤ 16777216) : kJo2 a y s = .ok (.str (Txt.join a ys)) s := by
  unfold kJo2
  rw [h, Option.bind_some, h2]
  exact if_pos hz
theorem o_sortF {F : FN} {x : D} {s : HS} {ds : List D} (h : getL s x = some ds) (g : D → Str) (hk : ∀ d ∈ ds, F [d] s = .ok (.str (g d)) s) (hl : ds.length ≤ 16777216) : oSortF F [x] s = .ok (.lst (ds.mergeSort fun a b => decide ((g a).cps.toList ≤ (g b).cps.toList))) s := by
  have e : sortF F s ds = ds.mergeSort fun a b => decide ((g a).cps.toList ≤ (g b).cps.toList) := by
    unfold sortF
    have key : ∀ d ∈ ds, keyO F s d = g d := fun d hd => by unfold keyO; rw [keyF_of (hk d hd)]; rfl
    refine PySem.W.sort_congr fun a ha b hb => ?_
    rw [key a ha, key b hb]
  show (match getL s x with
    | some ds => if ∀ d ∈ ds, (keyF F s d).isSome = true then mkL false (sortF F s ds) s else .bad
    | none => .bad) = _
  rw [h]
  dsimp only
  rw [if_pos (fun d hd => by rw [keyF_of (hk d hd)]; rfl), e]
  exact mkL_f _ (by rw [List.length_mergeSort]; exact hl)
end DL
end
section
/-! PU7: exceptions as values, run. -/
namespace DL
open PySem PySem.Spec PyProof.Rows L2
section
variable {sd : Sl} {s : HS} {xs : List String} {sub : String → String → Bool}
def kTA2 (i : Nat) : SR → SR
  | .nx sd2 s2 => .nx (sd2.set i none) s2
  | .bk sd2 s2 => .bk (sd2.set i none) s2
  | .ct sd2 s2 => .ct (sd2.set i none) s2
  | .rt d s2 => .rt d s2
  | _ => .bad
@[simp] theorem k_TA2_nx (i : Nat) : kTA2 i (.nx sd s) = .nx (sd.set i none) s := (rfl)
@[simp] theorem k_TA2_rt (i : Nat) (d : D) : kTA2 i (.rt d s) = .rt d s := (rfl)
def kTA (xs : List String) (sub : String → String → Bool) (h : String) (i : Nat) (f : SS) : SR → SR
  | .exc c sd1 s1 => if c ∈ xs ∧ h ∈ xs then (if sub c h = true then kTA2 i (f (sd1.set i (some (.ref s1.n))) (s1.new (.exn c))) else .exc c sd1 s1) else .bad
  | r => r
@[simp] theorem k_TA_nx (h : String) (i : Nat) (f : SS) : kTA xs sub h i f (.nx sd s) = .nx sd s := (rfl)
@[simp] theorem k_TA_rt (h : String) (i : Nat) (f : SS) (d : D) : kTA xs sub h i f (.rt d s) = .rt d s := (rfl)
@[simp] theorem k_TA_exc (h : String) (i : Nat) (f : SS) (c : String) : kTA xs sub h i f (.exc c sd s) = if c ∈ xs ∧ h ∈ xs then (if sub c h = true then kTA2 i (f (sd.set i (some (.ref s.n))) (s.new (.exn c))) else .exc c sd s) else .bad := (rfl)
@[simp] theorem e_tryAs (body : SS) (h : String) (i : Nat) (f : SS) : tryAsS xs sub body h i f sd s = kTA xs sub h i f (body sd s) := by
  unfold tryAsS kTA
  cases body sd s with
  | exc c sd1 s1 =>
    dsimp only
    split
    · split
      · unfold kTA2
        cases f (sd1.set i (some (.ref s1.n))) (s1.new (.exn c)) <;> rfl
      · rfl
    · rfl
  | _ => rfl
theorem exnAt_of {n : Nat} {c : String} (h : s.h n = some (.exn c)) (hc : c ∈ xs) : exnAt xs s (.ref n) = some c := by
  unfold exnAt
  simp only [h]
  exact if_pos hc
theorem o_isX {n : Nat} {c : String} (hs : List String) (h : s.h n = some (.exn c)) (hc : c ∈ xs) (hh : ∀ z ∈ hs, z ∈ xs) : oIsX xs sub hs (.ref n) s = .ok (.bl (hs.any (sub c))) s := by
  unfold oIsX
  rw [exnAt_of h hc]
  exact if_pos hh
theorem o_isV {n : Nat} {c : String} (h : s.h n = some (.exn c)) (hc : c ∈ xs) : oIsV xs (.ref n) s = .ok (.bl true) s := by
  unfold oIsV
  rw [exnAt_of h hc]
theorem o_isC {n : Nat} {c : String} {fs : List (Str × D)} (h : s.h n = some (.ins c fs)) : oIsC c (.ref n) s = .ok (.bl true) s := by
  unfold oIsC
  simp only [h, if_true]
end
end DL
end
section
/-! SpW: stores of shallow cells and worths. -/
local macro_rules | `(tactic| walk_at "d") => `(tactic| first | omega | (simp only [List.length_cons, List.length_nil, List.length_append, List.length_map, List.length_take, List.length_drop]; omega) | (simp; done))
namespace DL
open PySem PySem.Spec PyProof.Rows L2
theorem cell_spec3 {r : Nat} {s : HS} (h : Row s r) (hr : r < s.n) : ∃ c s', F_cell [.ref r] s = .ok c s' ∧ Pl 3 c = true ∧ Row s' r ∧ Fr (at1 r) s s' := by
  obtain ⟨v1, s1, e1, a1, b1, R1, f1, n1⟩ := take_fr h (m := 8) (by decide)
  obtain ⟨v2, s2, e2, a2, b2, R2, f2, n2⟩ := take_fr R1 (m := 2) (by decide)
  obtain ⟨v3, s3, e3, a3, b3, R3, f3, n3⟩ := take_fr R2 (m := 2) (by decide)
  obtain ⟨p, g1, q1⟩ := atI_all (α := D) (P := fun d => ∃ i : Int, d = .int i) (ds := [.int v1, .int v2]) a3 (by simpa using b3) (by simp)
  obtain ⟨p, rfl⟩ := q1
  obtain ⟨v4, s4, e4, a4, b4, R4, f4, n4⟩ := take_fr R3 (m := 13) (by decide)
  obtain ⟨c1, g2, q2⟩ := atI_all (α := D) (P := fun d => Pl 3 d = true) (ds := [.str "asked", .str "handed", .str "taken", .str "answered", .str "hand sleeps", .str "heart sleeps", .str "a", .str "b", .str "aa", .str "ask 0", .str "ask", .str "", .str " ask"]) a4 (by simpa using b4) (by simp)
  obtain ⟨v5, s5, e5, a5, b5, R5, f5, n5⟩ := take_fr R4 (m := 2) (by decide)
  obtain ⟨c2, g3, q3⟩ := atI_all (α := D) (P := fun d => Pl 3 d = true) (ds := [.str "asked", .str "handed", .str "taken", .str "answered", .str "hand sleeps", .str "heart sleeps", .str "a", .str "b", .str "aa", .str "ask 0", .str "ask", .str "", .str " ask"]) a5 (by simp; omega) (by simp)
  have n5' : r < s5.n := by omega
  have R5' : Row (s5.new (.lst [c1, .tup [.str "ask", .int p], .tup [.str "answer", .int p], c2, .tup [.str "ask", .str "0"]])) r := R5.fr n5' (Fr.new (W := fun _ => False)) (fun z => z)
  obtain ⟨v6, s6, e6, a6, b6, R6, f6, n6⟩ := take_fr R5' (m := 4) (by decide)
  obtain ⟨c3, g4, q4⟩ := atI_all (α := D) (P := fun d => Pl 3 d = true) (ds := [.tup [], .tup [.str "asked"], .tup [.str "ask", .tup [.int 0]], .tup [.str "ask", .int 0, .int 0]]) a6 (by simpa using b6) (by simp)
  have k6 : s6.h s5.n = some (.lst [c1, .tup [.str "ask", .int p], .tup [.str "answer", .int p], c2, .tup [.str "ask", .str "0"]]) := (f6.h s5.n (by simp) (by show ¬ s5.n = r; omega)).trans new_same
  have R6' : Row (s6.put s5.n (.lst [c1, .tup [.str "ask", .int p], .tup [.str "answer", .int p], c2, .tup [.str "ask", .str "0"], c3])) r := R6.fr (by simp at n6; omega) (Fr.put (W := fun m => m = s5.n) fun _ => rfl) (by show ¬ r = s5.n; omega)
  obtain ⟨v7, s7, e7, a7, b7, R7, f7, n7⟩ := take_fr R6' (m := 6) (by decide)
  obtain ⟨c4, g5, q5⟩ := atI_all (α := D) (P := fun d => Pl 3 d = true) (ds := [c1, .tup [.str "ask", .int p], .tup [.str "answer", .int p], c2, .tup [.str "ask", .str "0"], c3]) a7 (by simpa using b7) (by simp [q2, q3, q4])
  have k7 : s7.h s5.n = some (.lst [c1, .tup [.str "ask", .int p], .tup [.str "answer", .int p], c2, .tup [.str "ask", .str "0"], c3]) := (f7.h s5.n (by simp at n6; simp [n6]) (by show ¬ s5.n = r; omega)).trans put_same
  refine ⟨c4, s7, ?_, q5, R7, ?_⟩
  · unfold F_cell f_cell
    simp (disch := walk_at "d") [e1, e2, e3, g1, e4, g2, e5, g3, getL_ref new_same, e6, g4, o_app k6, e7, o_ixR k7, g5]
  · have fa : Fr (at1 r) s s5 := f1.trans (f2.trans (f3.trans (f4.trans f5)))
    have fb : Fr (at1 r) s s6 := fa.trans (Fr.new.trans f6)
    refine (fb.tr (Fr.put (W := fun m => m = s5.n) fun _ => rfl) fun m hm z => ?_).trans f7
    have := fa.n
    omega
theorem worth_spec3 {r : Nat} {s : HS} (h : Row s r) (hr : r < s.n) : ∃ c s', F_worth [.ref r] s = .ok c s' ∧ Pl 3 c = true ∧ Row s' r ∧ Fr (at1 r) s s' := by
  obtain ⟨v1, s1, e1, a1, b1, R1, f1, n1⟩ := take_fr h (m := 2000000001) (by decide)
  obtain ⟨v2, s2, e2, a2, b2, R2, f2, n2⟩ := take_fr R1 (m := 9) (by decide)
  obtain ⟨v3, s3, e3, a3, b3, R3, f3, n3⟩ := take_fr R2 (m := 4) (by decide)
  obtain ⟨v4, s4, e4, a4, b4, R4, f4, n4⟩ := take_fr R3 (m := 7) (by decide)
  obtain ⟨c1, g2, q2⟩ := atI_all (α := D) (P := fun d => Pl 3 d = true) (ds := [.int 0, .int 1, .int (v1 - 1000000000), .tup [.int v2, .int (v1 - 1000000000)], .int v3, .int 1000000000, .int (-1000000000)]) a4 (by simpa using b4) (by simp)
  refine ⟨c1, s4, ?_, q2, R4, f1.trans (f2.trans (f3.trans f4))⟩
  unfold F_worth f_worth
  simp (disch := walk_at "d") [e1, e2, e3, e4, g2]

/-- all that a store has is shallow -/
def Sh3 (l : List (D × D)) : Prop := ∀ p ∈ l, Pl 3 p.1 = true ∧ Pl 3 p.2 = true
structure Sm (st : Sto) : Prop where
  p0 : Sh3 st.r0
  p1 : Sh3 st.r1
  pm : Sh3 st.mem
theorem Sm.row {st : Sto} (h : Sm st) (side : Int) : Sh3 (st.row side) := by
  unfold Sto.row; split
  · exact h.p0
  · exact h.p1
theorem Sm.setRow {st : Sto} (h : Sm st) {side : Int} {l : List (D × D)} (hl : Sh3 l) : Sm (st.setRow side l) := by
  unfold Sto.setRow; split
  · exact ⟨hl, h.p1, h.pm⟩
  · exact ⟨h.p0, hl, h.pm⟩
theorem Sm.write {st : Sto} (h : Sm st) {side : Int} {c w : D} (hc : Pl 3 c = true) (hw : Pl 3 w = true) : Sm (st.write side c w) :=
  h.setRow fun p hp => by
    rcases List.mem_append.mp hp with z | z
    · exact h.row side p z
    · rw [List.mem_singleton.mp z]; exact ⟨hc, hw⟩
theorem Sm.putMem {st : Sto} (h : Sm st) {p : D × D} (hp : Pl 3 p.1 = true ∧ Pl 3 p.2 = true) : Sm (st.putMem p) := by
  refine ⟨h.p0, h.p1, fun x hx => ?_⟩
  rcases ptM_mem hx with ⟨w, m, e⟩ | rfl
  · have := h.pm _ m
    rcases e with e | e <;> rw [e]
    · exact this
    · exact ⟨this.1, hp.2⟩
  · exact hp
theorem sm_foldl : ∀ (l : List (D × D)) (st : Sto), Sm st → Sh3 l → Sm (l.foldl Sto.putMem st)
  | [], _, h, _ => h
  | p :: l, st, h, hl => sm_foldl l (st.putMem p) (h.putMem (hl p List.mem_cons_self)) fun x hx => hl x (List.mem_cons_of_mem _ hx)
theorem Sm.fence {st : Sto} (h : Sm st) (side : Int) : Sm (st.fence side) := sm_foldl _ _ (h.setRow (side := side) (l := []) fun _ q => (nomatch q)) (h.row side)
theorem Sm.drain {st : Sto} (h : Sm st) {side : Int} {p : D × D} {l : List (D × D)} (e : st.row side = p :: l) : Sm ((st.putMem p).setRow side l) := by
  have hr := h.row side
  rw [e] at hr
  exact (h.putMem (hr p List.mem_cons_self)).setRow fun x hx => hr x (List.mem_cons_of_mem _ hx)
theorem Sm0 : Sm Sto0 := ⟨fun _ q => (nomatch q), fun _ q => (nomatch q), fun _ q => (nomatch q)⟩
theorem lkM_mem {kvs : List (D × D)} {q : NestedKey} {v : D} (h : lkM kvs q = some v) : ∃ p ∈ kvs, p.2 = v := by
  unfold lkM at h
  cases e : kvs.find? fun kv => decide (keyD kv.1 = some q) with
  | none => rw [e] at h; cases h
  | some p =>
    rw [e] at h
    exact ⟨p, List.mem_of_find?_eq_some e, Option.some.inj h⟩
theorem Sm.mv {st : Sto} (h : Sm st) (c : D) : Pl 3 (st.mv c) = true := by
  unfold Sto.mv
  cases e : lkM st.mem (nkOf c) with
  | none => rfl
  | some v =>
    obtain ⟨p, hp, rfl⟩ := lkM_mem e
    exact (h.pm p hp).2
theorem lastW_pl {c : D} : ∀ {l : List (D × D)} {z : D}, Pl 3 z = true → Sh3 l → Pl 3 (lastW c z l) = true
  | [], z, hz, _ => hz
  | p :: l, z, hz, hl => by
    unfold lastW
    refine lastW_pl ?_ fun x hx => hl x (List.mem_cons_of_mem _ hx)
    split
    · exact (hl p List.mem_cons_self).2
    · exact hz
theorem Sm.rd {st : Sto} (h : Sm st) (side : Int) (c : D) : Pl 3 (st.rd side c) = true := lastW_pl (h.mv c) (h.row side)
theorem Sh3.tps {l : List (D × D)} (h : Sh3 l) : ∀ d ∈ l.map tp, Pl 4 d = true := fun d hd => by
  obtain ⟨p, hp, rfl⟩ := List.mem_map.mp hd
  obtain ⟨h1, h2⟩ := h p hp
  show Pl 4 (.tup [p.1, p.2]) = true
  rw [Pl_tup]
  simp [h1, h2]
theorem Pl36 {d : D} (h : Pl 3 d = true) : Pl 6 d = true := Pl_le h (by omega)
end DL
end
section
namespace K08
open PySem PySem.Spec PyProof.Rows L2 DL
noncomputable def L_looks_1 : SS :=
  (ifS (tb (b2 (v_ 6) (v_ 3) (oEq false))) (setS 5 (v_ 7)) skip)
noncomputable def L_looks_2 : SS :=
  (seq (setS 5 (methE "Store" "memory" (v_ 0) (acons (v_ 3) anil) (callD 2 F_Store_memory)))
  (seq (forS (itL (b2 (b2 (v_ 2) (c_ (.str "rows")) oDGet) (v_ 4) oIx)) (tgT [6, 7]) L_looks_1)
  (ifS (tb (b2 (methE "Store" "read" (v_ 0) (acons (v_ 4) (acons (v_ 3) anil)) (callD 3 F_Store_read)) (v_ 5) (oEq true))) (retS (c_ .non)) skip)))
noncomputable def L_looks_3 : SS :=
  (seq (exS (mth (b2 (v_ 2) (c_ (.str "memory")) oDGet) (acons (methE "Store" "memory" (v_ 0) (acons (v_ 3) anil) (callD 2 F_Store_memory)) anil) oAppend))
  (forS (itR1 (acons (c_ (.int 2)) anil)) (tgN 4) L_looks_2))
noncomputable def f_looks : SS :=
  (seq (setS 2 (dispE [((c_ (.str "rows")), (lstE false (acons (methE "Store" "waits" (v_ 0) (acons (c_ (.int 0)) anil) (callD 2 F_Store_waits)) (acons (methE "Store" "waits" (v_ 0) (acons (c_ (.int 1)) anil) (callD 2 F_Store_waits)) anil)))), ((c_ (.str "memory")), (lstE true anil))]))
  (seq (forS (itL (v_ 1)) (tgN 3) L_looks_3)
  (retS (v_ 2))))
noncomputable def F_looks : FN := bodyD 8 f_looks
noncomputable def L_drained_1 : SS :=
  (ifS (tb (b2 (b2 (v_ 1) (v_ 5) oIx) (v_ 6) (oEq false))) (setIx (v_ 4) (v_ 5) (v_ 7)) skip)
noncomputable def f_drained : SS :=
  (seq (unpS [6, 7] (b2 (b2 (b2 (v_ 0) (c_ (.str "rows")) oDGet) (v_ 2) oIx) (c_ (.int 0)) oIx))
  (seq (setS 3 (lstE true (acons (bN (acons (b2 (b2 (v_ 0) (c_ (.str "rows")) oDGet) (c_ (.int 0)) oIx) anil) (oList false)) (acons (bN (acons (b2 (b2 (v_ 0) (c_ (.str "rows")) oDGet) (c_ (.int 1)) oIx) anil) (oList false)) anil))))
  (seq (setIx (v_ 3) (v_ 2) (slE false (b2 (v_ 3) (v_ 2) oIx) (someP (c_ (.int 1))) noP))
  (seq (setS 4 (bN (acons (b2 (v_ 0) (c_ (.str "memory")) oDGet) anil) (oList true)))
  (seq (forS (itR1 (acons (bN (acons (v_ 1) anil) oLen) anil)) (tgN 5) L_drained_1)
  (retS (dispE [((c_ (.str "rows")), (v_ 3)), ((c_ (.str "memory")), (v_ 4))])))))))
noncomputable def F_drained : FN := bodyD 8 f_drained
noncomputable def L_step_1 : SS :=
  (setS 6 (bN (acons (v_ 6) (acons (v_ 2) (acons (v_ 4) anil))) (callD 3 F_drained)))
noncomputable def W_step_1 : ST :=
  (tb (b2 (b2 (b2 (v_ 6) (c_ (.str "rows")) oDGet) (v_ 4) oIx) (lstE false anil) (oEq true)))
noncomputable def f_step : SS :=
  (seq (setS 4 (bN (acons (v_ 0) (acons (c_ (.int 2)) anil)) (callD 2 F_take)))
  (seq (setS 5 (bN (acons (v_ 0) (acons (c_ (.int 6)) anil)) (callD 2 F_take)))
  (seq (setS 6 (dispE [((c_ (.str "rows")), (lstE false (acons (bN (acons (b2 (b2 (v_ 3) (c_ (.str "rows")) oDGet) (c_ (.int 0)) oIx) anil) (oList true)) (acons (bN (acons (b2 (b2 (v_ 3) (c_ (.str "rows")) oDGet) (c_ (.int 1)) oIx) anil) (oList true)) anil)))), ((c_ (.str "memory")), (bN (acons (b2 (v_ 3) (c_ (.str "memory")) oDGet) anil) (oList false)))]))
  (seq (ifS (orT (tb (b2 (v_ 5) (c_ (.int 3)) oLt)) (tb (b2 (b2 (b2 (v_ 6) (c_ (.str "rows")) oDGet) (v_ 4) oIx) (lstE false anil) (oEq false)))) (seq (setS 7 (b2 (v_ 2) (bN (acons (v_ 0) (acons (bN (acons (v_ 2) anil) oLen) anil)) (callD 2 F_take)) oIx))
  (seq (setS 8 (bN (acons (v_ 0) anil) (callD 1 F_worth)))
  (seq (exS (methE "Store" "write" (v_ 1) (acons (v_ 4) (acons (v_ 7) (acons (v_ 8) anil))) (callD 4 F_Store_write)))
  (exS (mth (b2 (b2 (v_ 6) (c_ (.str "rows")) oDGet) (v_ 4) oIx) (acons (tupE (acons (v_ 7) (acons (v_ 8) anil))) anil) oAppend))))) (ifS (tb (b2 (v_ 5) (c_ (.int 5)) oLt)) (seq (exS (methE "Store" "drain" (v_ 1) (acons (v_ 4) anil) (callD 2 F_Store_drain)))
  (setS 6 (bN (acons (v_ 6) (acons (v_ 2) (acons (v_ 4) anil))) (callD 3 F_drained)))) (seq (exS (methE "Store" "fence" (v_ 1) (acons (v_ 4) anil) (callD 2 F_Store_fence)))
  (whS 100000 W_step_1 L_step_1))))
  (retS (v_ 6))))))
noncomputable def F_step : FN := bodyD 9 f_step
noncomputable def L_law_1 : SS :=
  (seq (setS 6 (bN (acons (v_ 1) anil) (callD 1 F_cell)))
  (ifS (tb (b2 (v_ 6) (v_ 2) (oIn true))) (exS (mth (v_ 2) (acons (v_ 6) anil) oAppend)) skip))
noncomputable def L_law_2 : SS :=
  (seq (ifS (tb (b2 (v_ 5) (c_ .non) (oIs false))) (retS (c_ (.bl false))) skip)
  (seq (setS 8 (bN (acons (v_ 7) (acons (v_ 4) (acons (v_ 2) (acons (v_ 5) anil)))) (callD 4 F_step)))
  (seq (setS 5 (bN (acons (v_ 4) (acons (v_ 2) anil)) (callD 2 F_looks)))
  (ifS (tb (b2 (v_ 5) (v_ 8) (oDEq true))) (retS (c_ (.bl false))) skip))))
noncomputable def L_law_3 : SS :=
  (seq (setS 7 (bN (acons (v_ 6) anil) (callD 1 F_stream)))
  (forS (itR1 (acons (b2 (c_ (.int 1)) (bN (acons (v_ 7) (acons (c_ (.int 3)) anil)) (callD 2 F_take)) (oAdd false)) anil)) (tgN 3) L_law_2))
noncomputable def f_law : SS :=
  (seq (setS 1 (bN (acons (b2 (b2 (v_ 0) (lstE false (acons (c_ (.int 0)) anil)) (oAdd false)) (c_ (.int 0)) oIx) anil) (callD 1 F_stream)))
  (seq (setS 2 (lstE true anil))
  (seq (forS (itR1 (acons (b2 (c_ (.int 2)) (bN (acons (v_ 1) (acons (c_ (.int 11)) anil)) (callD 2 F_take)) (oAdd false)) anil)) (tgN 3) L_law_1)
  (seq (setS 4 (makE "Store" anil (callD 1 F_Store_init)))
  (seq (setS 5 (bN (acons (v_ 4) (acons (v_ 2) anil)) (callD 2 F_looks)))
  (seq (forS (itL (b2 (lstE false (acons (c_ (.int 0)) anil)) (slE false (v_ 0) (someP (c_ (.int 1))) (someP (c_ (.int 25)))) (oAdd false))) (tgN 6) L_law_3)
  (retS (b2 (v_ 5) (c_ .non) (oIs true)))))))))
noncomputable def F_law : FN := bodyD 9 f_law
end K08
end
section
namespace K08
open PySem PySem.Spec PyProof.Rows L2 DL
def top (i : Nat) : Stmt := PySem.Challenge.pw_askring_k08_whole_each_deed_by_its_looks.main.body.getD i (.Pass ⟨0, 0, 0, 0⟩)
/-- what the top has written -/
structure Txt (C : Ct) (mg : Str → Option Value) : Prop where
  n_int : mg "int" = none
  n_len : mg "len" = none
  n_list : mg "list" = none
  n_range : mg "range" = none
  a_Store_rows : Att C "Store" "rows"
  a_Store_worths : Att C "Store" "worths"
  gE_RingError : mg "RingError" = some (.ref (C.cA "RingError"))
  gE_NoDeed : mg "NoDeed" = some (.ref (C.cA "NoDeed"))
  xE_NoDeed : PySem.W.excIn C.K (C.cA "NoDeed") [.type "ValueError", .type "Exception", .type "BaseException", .type "object"] "ValueError.__new__" = true
  kE_NoDeed : PySem.W.keepIn C.K (.ref (C.cA "NoDeed")) = true
  bE_NoDeed : PySem.W.subIn C.K (.ref (C.cA "NoDeed")) (.type "BaseException") = some true
  tE_NoDeed : PySem.W.typeIn C.K (.ref (C.cA "NoDeed")) = some (.type "type")

section
variable {P : Program} {C : Ct} {mg : Str → Option Value} {base : Heap}
abbrev s_stream : Stmt := top 6
theorem sc_stream : FnScope ["cell", "low"] ["cell"] (defScope s_stream) := ⟨rfl, rfl, rfl, by decide +kernel, rfl, by decide +kernel, by decide +kernel⟩
theorem ok_stream {f : Addr} {fd : FuncData} (FF : Fun C.K "_law_stream" "_law_stream" s_stream f fd) (g : mg "_law_stream" = some (.ref f)) (T : Txt C mg) : FnI C P mg base 1 "_law_stream" 1 F_stream :=
  ⟨f, fd, _, (fnD FF sc_stream fun cdv A outer s H E hr o => (scons (sset (i := 1) sc_stream.nd rfl (by first | exact Or.inl rfl | exact Or.inr rfl) (lmod (lv 0) li))
  (scons (sset (i := 1) sc_stream.nd rfl (by first | exact Or.inl rfl | exact Or.inr rfl) (lmod (ladd false o (lmul false (lmod (lmul false (lv 1) (lv 1)) li) (ladd false o (lv 1) li)) li) li))
  (sone (sret (llst true (lacons (lv 0) (lacons (lv 1) (lacons (lcT (call_int1) (onInt) rfl T.n_int (by decide +kernel) (lacons (LCmp.v (lge (lv 0) (lpow li li))) lanil)) lanil))))))))), g, FF.kp, FF.binds (fun _ _ _ _ _ _ us hl => match us, hl with | [_], _ => rfl)⟩
abbrev s_take : Stmt := top 7
theorem sc_take : FnScope ["row", "many", "got"] ["row", "many"] (defScope s_take) := ⟨rfl, rfl, rfl, by decide +kernel, rfl, by decide +kernel, by decide +kernel⟩
theorem ok_take {f : Addr} {fd : FuncData} (FF : Fun C.K "_law_take" "_law_take" s_take f fd) (g : mg "_law_take" = some (.ref f)) (T : Txt C mg) : FnI C P mg base 1 "_law_take" 2 F_take :=
  ⟨f, fd, _, (fnD FF sc_take fun cdv A outer s H E hr o => (scons (sif (LCmp.t (leqq hr.units o (lix o (lv 0) li) li)) (scons (sset (i := 2) sc_take.nd rfl (by first | exact Or.inl rfl | exact Or.inr rfl) (lmod (lix o (lv 0) li) (lv 1)))
  (scons (ssub (lv 0) li (lfdiv (lix o (lv 0) li) (lv 1)))
  (sone (sret (lv 2))))) snil)
  (scons (ssub (lv 0) li (lmod (lmul false (ladd false o (lix o (lv 0) li) li) (ladd false o (lix o (lv 0) li) li)) li))
  (sone (sret (lmod (lfdiv (ladd false o (lmul false (lix o (lv 0) li) li) li) li) (lv 1))))))), g, FF.kp, FF.binds (fun _ _ _ _ _ _ us hl => match us, hl with | [_, _], _ => rfl)⟩
abbrev s_cell : Stmt := top 8
theorem sc_cell : FnScope ["row", "texts", "place", "some"] ["row"] (defScope s_cell) := ⟨rfl, rfl, rfl, by decide +kernel, rfl, by decide +kernel, by decide +kernel⟩
theorem ok_cell {f : Addr} {fd : FuncData} (FF : Fun C.K "_law_cell" "_law_cell" s_cell f fd) (g : mg "_law_cell" = some (.ref f)) (T : Txt C mg) (I_take : FnI C P mg base 1 "_law_take" 2 F_take) : FnI C P mg base 2 "_law_cell" 1 F_cell :=
  ⟨f, fd, _, (fnD FF sc_cell fun cdv A outer s H E hr o => (scons (sset (i := 1) sc_cell.nd rfl (by first | exact Or.inl rfl | exact Or.inr rfl) (llst false (lacons ls (lacons ls (lacons ls (lacons ls (lacons ls (lacons ls (lacons ls (lacons ls (lacons ls (lacons ls (lacons ls lanil)))))))))))))
  (scons (sset (i := 1) sc_cell.nd rfl (by first | exact Or.inl rfl | exact Or.inr rfl) (ladd false o (lv 1) (llst false (lacons ls (lacons ls lanil)))))
  (scons (sset (i := 2) sc_cell.nd rfl (by first | exact Or.inl rfl | exact Or.inr rfl) (lix o (llst false (lacons (lcallI I_take o (hr.mono (by first | decide | omega)) rfl (lacons (lv 0) (lacons li lanil))) (lacons (lcallI I_take o (hr.mono (by first | decide | omega)) rfl (lacons (lv 0) (lacons li lanil))) lanil))) (lcallI I_take o (hr.mono (by first | decide | omega)) rfl (lacons (lv 0) (lacons li lanil)))))
  (scons (sset (i := 3) sc_cell.nd rfl (by first | exact Or.inl rfl | exact Or.inr rfl) (llst true (lacons (lix o (lv 1) (lcallI I_take o (hr.mono (by first | decide | omega)) rfl (lacons (lv 0) (lacons li lanil)))) (lacons (ltup (lacons ls (lacons (lv 2) lanil))) (lacons (ltup (lacons ls (lacons (lv 2) lanil))) (lacons (lix o (lv 1) (lcallI I_take o (hr.mono (by first | decide | omega)) rfl (lacons (lv 0) (lacons li lanil)))) (lacons (ltup (lacons ls (lacons ls lanil))) lanil)))))))
  (scons (sexpr (lm PySem.F.slot_list_append PySem.F.type_list_append mt_append omAppend o (lv 3) (lacons (lix o (llst false (lacons (ltup lanil) (lacons (ltup (lacons ls lanil)) (lacons (ltup (lacons ls (lacons (ltup (lacons li lanil)) lanil))) (lacons (ltup (lacons ls (lacons li (lacons li lanil)))) lanil))))) (lcallI I_take o (hr.mono (by first | decide | omega)) rfl (lacons (lv 0) (lacons li lanil)))) lanil)))
  (sone (sret (lix o (lv 3) (lcallI I_take o (hr.mono (by first | decide | omega)) rfl (lacons (lv 0) (lacons li lanil)))))))))))), g, FF.kp, FF.binds (fun _ _ _ _ _ _ us hl => match us, hl with | [_], _ => rfl)⟩
abbrev s_Store_init : Stmt := inClass (top 4) 0
theorem sc_Store_init : FnScope ["self"] ["self"] (defScope s_Store_init) := ⟨rfl, rfl, rfl, by decide +kernel, rfl, by decide +kernel, by decide +kernel⟩
theorem ok_Store_init {f : Addr} {fd : FuncData} (FF : Fun C.K "__init__" "Store.__init__" s_Store_init f fd) (M : Mk C.K (C.cA "Store") f) (g : mg "Store" = some (.ref (C.cA "Store"))) (T : Txt C mg) : MkI C P mg base 1 "Store" "Store" 1 F_Store_init :=
  ⟨f, fd, _, (fnD FF sc_Store_init fun cdv A outer s H E hr o => (scons (sfld o T.a_Store_worths (lv 0) (lmnew o))
  (sone (sfld o T.a_Store_rows (lv 0) (llst false (lacons (llst true lanil) (lacons (llst true lanil) lanil))))))), M, g, FF.binds (fun _ _ _ _ _ _ us hl => match us, hl with | [_], _ => rfl)⟩
abbrev s_Store_waits : Stmt := inClass (top 4) 6
theorem sc_Store_waits : FnScope ["self", "side"] ["self", "side"] (defScope s_Store_waits) := ⟨rfl, rfl, rfl, by decide +kernel, rfl, by decide +kernel, by decide +kernel⟩
theorem ok_Store_waits {f : Addr} {fd : FuncData} (FF : Fun C.K "waits" "Store.waits" s_Store_waits f fd) (M : Meth C.K (C.cA "Store") "waits" f) (cl : Cls C.K (C.cA "Store")) (T : Txt C mg) : MtI C P mg base 1 "Store" "waits" 2 F_Store_waits :=
  ⟨f, fd, _, (fnD FF sc_Store_waits fun cdv A outer s H E hr o => (sone (sret (lcT (call_list_of) (onList o false) rfl T.n_list (by decide +kernel) (lacons (lix o (lfld o T.a_Store_rows (lv 0)) (lv 1)) lanil))))), M, cl, FF.binds (fun _ _ _ _ _ _ us hl => match us, hl with | [_, _], _ => rfl)⟩
abbrev s_Store_memory : Stmt := inClass (top 4) 3
theorem sc_Store_memory : FnScope ["self", "cell"] ["self", "cell"] (defScope s_Store_memory) := ⟨rfl, rfl, rfl, by decide +kernel, rfl, by decide +kernel, by decide +kernel⟩
theorem ok_Store_memory {f : Addr} {fd : FuncData} (FF : Fun C.K "memory" "Store.memory" s_Store_memory f fd) (M : Meth C.K (C.cA "Store") "memory" f) (cl : Cls C.K (C.cA "Store")) (T : Txt C mg) : MtI C P mg base 1 "Store" "memory" 2 F_Store_memory :=
  ⟨f, fd, _, (fnD FF sc_Store_memory fun cdv A outer s H E hr o => (sone (sret (lmget2 (Room.u65 hr) o (lfld o T.a_Store_worths (lv 0)) (lv 1) li ⟨rfl, rfl, rfl, rfl⟩)))), M, cl, FF.binds (fun _ _ _ _ _ _ us hl => match us, hl with | [_, _], _ => rfl)⟩
abbrev s_Store_read : Stmt := inClass (top 4) 2
theorem sc_Store_read : FnScope ["self", "side", "cell", "found", "other", "worth"] ["self", "side", "cell"] (defScope s_Store_read) := ⟨rfl, rfl, rfl, by decide +kernel, rfl, by decide +kernel, by decide +kernel⟩
theorem ok_Store_read {f : Addr} {fd : FuncData} (FF : Fun C.K "read" "Store.read" s_Store_read f fd) (M : Meth C.K (C.cA "Store") "read" f) (cl : Cls C.K (C.cA "Store")) (T : Txt C mg) (I_Store_memory : MtI C P mg base 1 "Store" "memory" 2 F_Store_memory) : MtI C P mg base 2 "Store" "read" 3 F_Store_read :=
  ⟨f, fd, _, (fnD FF sc_Store_read fun cdv A outer s H E hr o => (scons (sset (i := 3) sc_Store_read.nd rfl (by first | exact Or.inl rfl | exact Or.inr rfl) (lmethI I_Store_memory o (hr.mono (by first | decide | omega)) (lv 0) (lacons (lv 2) lanil)))
  (scons (sfor (passes_of rfl) o (itl o (lix o (lfld o T.a_Store_rows (lv 0)) (lv 1))) (pg_tup rfl (pgs_cons (pg_name (i := 4) sc_Store_read.nd rfl (by first | exact Or.inl rfl | exact Or.inr rfl)) (pgs_cons (pg_name (i := 5) sc_Store_read.nd rfl (by first | exact Or.inl rfl | exact Or.inr rfl)) pgs_nil))) (tgt [4, 5]) (sone (sif (LCmp.t (leqq hr.units o (lv 4) (lv 2))) (sone (sset (i := 3) sc_Store_read.nd rfl (by first | exact Or.inl rfl | exact Or.inr rfl) (lv 5))) snil)))
  (sone (sret (lv 3)))))), M, cl, FF.binds (fun _ _ _ _ _ _ us hl => match us, hl with | [_, _, _], _ => rfl)⟩
abbrev s_looks : Stmt := top 11
theorem sc_looks : FnScope ["store", "some", "told", "cell", "side", "found", "other", "worth"] ["store", "some"] (defScope s_looks) := ⟨rfl, rfl, rfl, by decide +kernel, rfl, by decide +kernel, by decide +kernel⟩
theorem ok_looks {f : Addr} {fd : FuncData} (FF : Fun C.K "_law_looks" "_law_looks" s_looks f fd) (g : mg "_law_looks" = some (.ref f)) (T : Txt C mg) (I_Store_waits : MtI C P mg base 1 "Store" "waits" 2 F_Store_waits) (I_Store_memory : MtI C P mg base 1 "Store" "memory" 2 F_Store_memory) (I_Store_read : MtI C P mg base 2 "Store" "read" 3 F_Store_read) : FnI C P mg base 3 "_law_looks" 2 F_looks :=
  ⟨f, fd, _, (fnD FF sc_looks fun cdv A outer s H E hr o => (scons (sset (i := 2) sc_looks.nd rfl (by first | exact Or.inl rfl | exact Or.inr rfl) (ldisp (l := [((c_ (.str "rows")), (lstE false (acons (methE "Store" "waits" (v_ 0) (acons (c_ (.int 0)) anil) (callD 2 F_Store_waits)) (acons (methE "Store" "waits" (v_ 0) (acons (c_ (.int 1)) anil) (callD 2 F_Store_waits)) anil)))), ((c_ (.str "memory")), (lstE true anil))]) (pps_cons ls (llst false (lacons (lmethI I_Store_waits o (hr.mono (by first | decide | omega)) (lv 0) (lacons li lanil)) (lacons (lmethI I_Store_waits o (hr.mono (by first | decide | omega)) (lv 0) (lacons li lanil)) lanil))) (pps_cons ls (llst true lanil) pps_nil)) rfl rfl (by intro z; cases z) (by decide)))
  (scons (sfor (passes_of rfl) o (itl o (lv 1)) (pg_name (i := 3) sc_looks.nd rfl (by first | exact Or.inl rfl | exact Or.inr rfl)) (tgn 3) (scons (sexpr (lm PySem.F.slot_list_append PySem.F.type_list_append mt_append omAppend o (ldget (Room.u1 hr) (lv 2) ls) (lacons (lmethI I_Store_memory o (hr.mono (by first | decide | omega)) (lv 0) (lacons (lv 3) lanil)) lanil)))
  (sone (sfor (passes_of rfl) o (itr1 rfl T.n_range (lacons li lanil)) (pg_name (i := 4) sc_looks.nd rfl (by first | exact Or.inl rfl | exact Or.inr rfl)) (tgn 4) (scons (sset (i := 5) sc_looks.nd rfl (by first | exact Or.inl rfl | exact Or.inr rfl) (lmethI I_Store_memory o (hr.mono (by first | decide | omega)) (lv 0) (lacons (lv 3) lanil)))
  (scons (sfor (passes_of rfl) o (itl o (lix o (ldget (Room.u1 hr) (lv 2) ls) (lv 4))) (pg_tup rfl (pgs_cons (pg_name (i := 6) sc_looks.nd rfl (by first | exact Or.inl rfl | exact Or.inr rfl)) (pgs_cons (pg_name (i := 7) sc_looks.nd rfl (by first | exact Or.inl rfl | exact Or.inr rfl)) pgs_nil))) (tgt [6, 7]) (sone (sif (LCmp.t (leqq hr.units o (lv 6) (lv 3))) (sone (sset (i := 5) sc_looks.nd rfl (by first | exact Or.inl rfl | exact Or.inr rfl) (lv 7))) snil)))
  (sone (sif (LCmp.t (lne hr.units o (lmethI I_Store_read o (hr.mono (by first | decide | omega)) (lv 0) (lacons (lv 4) (lacons (lv 3) lanil))) (lv 5))) (sone (sret ln)) snil))))))))
  (sone (sret (lv 2)))))), g, FF.kp, FF.binds (fun _ _ _ _ _ _ us hl => match us, hl with | [_, _], _ => rfl)⟩
abbrev s_worth : Stmt := top 9
theorem sc_worth : FnScope ["row", "far"] ["row"] (defScope s_worth) := ⟨rfl, rfl, rfl, by decide +kernel, rfl, by decide +kernel, by decide +kernel⟩
theorem ok_worth {f : Addr} {fd : FuncData} (FF : Fun C.K "_law_worth" "_law_worth" s_worth f fd) (g : mg "_law_worth" = some (.ref f)) (T : Txt C mg) (I_take : FnI C P mg base 1 "_law_take" 2 F_take) : FnI C P mg base 2 "_law_worth" 1 F_worth :=
  ⟨f, fd, _, (fnD FF sc_worth fun cdv A outer s H E hr o => (scons (sset (i := 1) sc_worth.nd rfl (by first | exact Or.inl rfl | exact Or.inr rfl) (lsub (lcallI I_take o (hr.mono (by first | decide | omega)) rfl (lacons (lv 0) (lacons (ladd false o (lmul false li (lpow li li)) li) lanil))) (lpow li li)))
  (sone (sret (lix o (llst false (lacons li (lacons li (lacons (lv 1) (lacons (ltup (lacons (lcallI I_take o (hr.mono (by first | decide | omega)) rfl (lacons (lv 0) (lacons li lanil))) (lacons (lv 1) lanil))) (lacons (lcallI I_take o (hr.mono (by first | decide | omega)) rfl (lacons (lv 0) (lacons li lanil))) (lacons (lpow li li) (lacons (lneg (lpow li li)) lanil)))))))) (lcallI I_take o (hr.mono (by first | decide | omega)) rfl (lacons (lv 0) (lacons li lanil)))))))), g, FF.kp, FF.binds (fun _ _ _ _ _ _ us hl => match us, hl with | [_], _ => rfl)⟩
abbrev s_Store_write : Stmt := inClass (top 4) 1
theorem sc_Store_write : FnScope ["self", "side", "cell", "worth"] ["self", "side", "cell", "worth"] (defScope s_Store_write) := ⟨rfl, rfl, rfl, by decide +kernel, rfl, by decide +kernel, by decide +kernel⟩
theorem ok_Store_write {f : Addr} {fd : FuncData} (FF : Fun C.K "write" "Store.write" s_Store_write f fd) (M : Meth C.K (C.cA "Store") "write" f) (cl : Cls C.K (C.cA "Store")) (T : Txt C mg) : MtI C P mg base 1 "Store" "write" 4 F_Store_write :=
  ⟨f, fd, _, (fnD FF sc_Store_write fun cdv A outer s H E hr o => (sone (sexpr (lm PySem.F.slot_list_append PySem.F.type_list_append mt_append omAppend o (lix o (lfld o T.a_Store_rows (lv 0)) (lv 1)) (lacons (ltup (lacons (lv 2) (lacons (lv 3) lanil))) lanil))))), M, cl, FF.binds (fun _ _ _ _ _ _ us hl => match us, hl with | [_, _, _, _], _ => rfl)⟩
abbrev s_Store_drain : Stmt := inClass (top 4) 4
theorem sc_Store_drain : FnScope ["self", "side", "cell", "worth"] ["self", "side"] (defScope s_Store_drain) := ⟨rfl, rfl, rfl, by decide +kernel, rfl, by decide +kernel, by decide +kernel⟩
theorem ok_Store_drain {f : Addr} {fd : FuncData} (FF : Fun C.K "drain" "Store.drain" s_Store_drain f fd) (M : Meth C.K (C.cA "Store") "drain" f) (cl : Cls C.K (C.cA "Store")) (T : Txt C mg) : MtI C P mg base 1 "Store" "drain" 2 F_Store_drain :=
  ⟨f, fd, _, (fnD FF sc_Store_drain fun cdv A outer s H E hr o => (scons (sif (LCmp.t (leqq hr.units o (lix o (lfld o T.a_Store_rows (lv 0)) (lv 1)) (llst false lanil))) (sone (sraise o (pmk_own PySem.F.excBase_ValueError T.xE_NoDeed T.gE_NoDeed T.kE_NoDeed (raises_own T.bE_NoDeed T.tE_NoDeed) (by exact rfl)))) snil)
  (scons (sunp (is := [2, 3]) o (lm PySem.F.slot_list_pop PySem.F.type_list_pop (MtR.or mt_pop mt_popAt) omPop o (lix o (lfld o T.a_Store_rows (lv 0)) (lv 1)) (lacons li lanil)) (pgs_cons (pg_name (i := 2) sc_Store_drain.nd rfl (by first | exact Or.inl rfl | exact Or.inr rfl)) (pgs_cons (pg_name (i := 3) sc_Store_drain.nd rfl (by first | exact Or.inl rfl | exact Or.inr rfl)) pgs_nil)))
  (sone (smput (Room.u65 hr) o (lfld o T.a_Store_worths (lv 0)) (lv 2) (lv 3)))))), M, cl, FF.binds (fun _ _ _ _ _ _ us hl => match us, hl with | [_, _], _ => rfl)⟩
abbrev s_drained : Stmt := top 12
theorem sc_drained : FnScope ["told", "some", "side", "rows", "memory", "k", "cell", "worth"] ["told", "some", "side"] (defScope s_drained) := ⟨rfl, rfl, rfl, by decide +kernel, rfl, by decide +kernel, by decide +kernel⟩
theorem ok_drained {f : Addr} {fd : FuncData} (FF : Fun C.K "_law_drained" "_law_drained" s_drained f fd) (g : mg "_law_drained" = some (.ref f)) (T : Txt C mg) : FnI C P mg base 1 "_law_drained" 3 F_drained :=
  ⟨f, fd, _, (fnD FF sc_drained fun cdv A outer s H E hr o => (scons (sunp (is := [6, 7]) o (lix o (lix o (ldget (Room.u1 hr) (lv 0) ls) (lv 2)) li) (pgs_cons (pg_name (i := 6) sc_drained.nd rfl (by first | exact Or.inl rfl | exact Or.inr rfl)) (pgs_cons (pg_name (i := 7) sc_drained.nd rfl (by first | exact Or.inl rfl | exact Or.inr rfl)) pgs_nil)))
  (scons (sset (i := 3) sc_drained.nd rfl (by first | exact Or.inl rfl | exact Or.inr rfl) (llst true (lacons (lcT (call_list_of) (onList o false) rfl T.n_list (by decide +kernel) (lacons (lix o (ldget (Room.u1 hr) (lv 0) ls) li) lanil)) (lacons (lcT (call_list_of) (onList o false) rfl T.n_list (by decide +kernel) (lacons (lix o (ldget (Room.u1 hr) (lv 0) ls) li) lanil)) lanil))))
  (scons (ssub (lv 3) (lv 2) (lslice false o (lix o (lv 3) (lv 2)) (losome li) lonone))
  (scons (sset (i := 4) sc_drained.nd rfl (by first | exact Or.inl rfl | exact Or.inr rfl) (lcT (call_list_of) (onList o true) rfl T.n_list (by decide +kernel) (lacons (ldget (Room.u1 hr) (lv 0) ls) lanil)))
  (scons (sfor (passes_of rfl) o (itr1 rfl T.n_range (lacons (lcB (CallR.or call_len_seq call_len_str) (onLen o) rfl T.n_len (by decide +kernel) (lacons (lv 1) lanil)) lanil)) (pg_name (i := 5) sc_drained.nd rfl (by first | exact Or.inl rfl | exact Or.inr rfl)) (tgn 5) (sone (sif (LCmp.t (leqq hr.units o (lix o (lv 1) (lv 5)) (lv 6))) (sone (ssub (lv 4) (lv 5) (lv 7))) snil)))
  (sone (sret (ldisp (l := [((c_ (.str "rows")), (v_ 3)), ((c_ (.str "memory")), (v_ 4))]) (pps_cons ls (lv 3) (pps_cons ls (lv 4) pps_nil)) rfl rfl (by intro z; cases z) (by decide)))))))))), g, FF.kp, FF.binds (fun _ _ _ _ _ _ us hl => match us, hl with | [_, _, _], _ => rfl)⟩
abbrev s_Store_fence : Stmt := inClass (top 4) 5
theorem sc_Store_fence : FnScope ["self", "side"] ["self", "side"] (defScope s_Store_fence) := ⟨rfl, rfl, rfl, by decide +kernel, rfl, by decide +kernel, by decide +kernel⟩
theorem ok_Store_fence {f : Addr} {fd : FuncData} (FF : Fun C.K "fence" "Store.fence" s_Store_fence f fd) (M : Meth C.K (C.cA "Store") "fence" f) (cl : Cls C.K (C.cA "Store")) (T : Txt C mg) (I_Store_drain : MtI C P mg base 1 "Store" "drain" 2 F_Store_drain) : MtI C P mg base 2 "Store" "fence" 2 F_Store_fence :=
  ⟨f, fd, _, (fnD FF sc_Store_fence fun cdv A outer s H E hr o => (sone (swh 100000 (passes_of rfl) (LCmp.t (lne hr.units o (lix o (lfld o T.a_Store_rows (lv 0)) (lv 1)) (llst false lanil))) (sone (sexpr (lmethI I_Store_drain o (hr.mono (by first | decide | omega)) (lv 0) (lacons (lv 1) lanil))))))), M, cl, FF.binds (fun _ _ _ _ _ _ us hl => match us, hl with | [_, _], _ => rfl)⟩
abbrev s_step : Stmt := top 13
theorem sc_step : FnScope ["row", "store", "some", "ahead", "side", "kind", "due", "cell", "worth"] ["row", "store", "some", "ahead"] (defScope s_step) := ⟨rfl, rfl, rfl, by decide +kernel, rfl, by decide +kernel, by decide +kernel⟩
theorem ok_step {f : Addr} {fd : FuncData} (FF : Fun C.K "_law_step" "_law_step" s_step f fd) (g : mg "_law_step" = some (.ref f)) (T : Txt C mg) (I_take : FnI C P mg base 1 "_law_take" 2 F_take) (I_worth : FnI C P mg base 2 "_law_worth" 1 F_worth) (I_Store_write : MtI C P mg base 1 "Store" "write" 4 F_Store_write) (I_Store_drain : MtI C P mg base 1 "Store" "drain" 2 F_Store_drain) (I_drained : FnI C P mg base 1 "_law_drained" 3 F_drained) (I_Store_fence : MtI C P mg base 2 "Store" "fence" 2 F_Store_fence) : FnI C P mg base 3 "_law_step" 4 F_step :=
  ⟨f, fd, _, (fnD FF sc_step fun cdv A outer s H E hr o => (scons (sset (i := 4) sc_step.nd rfl (by first | exact Or.inl rfl | exact Or.inr rfl) (lcallI I_take o (hr.mono (by first | decide | omega)) rfl (lacons (lv 0) (lacons li lanil))))
  (scons (sset (i := 5) sc_step.nd rfl (by first | exact Or.inl rfl | exact Or.inr rfl) (lcallI I_take o (hr.mono (by first | decide | omega)) rfl (lacons (lv 0) (lacons li lanil))))
  (scons (sset (i := 6) sc_step.nd rfl (by first | exact Or.inl rfl | exact Or.inr rfl) (ldisp (l := [((c_ (.str "rows")), (lstE false (acons (bN (acons (b2 (b2 (v_ 3) (c_ (.str "rows")) oDGet) (c_ (.int 0)) oIx) anil) (oList true)) (acons (bN (acons (b2 (b2 (v_ 3) (c_ (.str "rows")) oDGet) (c_ (.int 1)) oIx) anil) (oList true)) anil)))), ((c_ (.str "memory")), (bN (acons (b2 (v_ 3) (c_ (.str "memory")) oDGet) anil) (oList false)))]) (pps_cons ls (llst false (lacons (lcT (call_list_of) (onList o true) rfl T.n_list (by decide +kernel) (lacons (lix o (ldget (Room.u1 hr) (lv 3) ls) li) lanil)) (lacons (lcT (call_list_of) (onList o true) rfl T.n_list (by decide +kernel) (lacons (lix o (ldget (Room.u1 hr) (lv 3) ls) li) lanil)) lanil))) (pps_cons ls (lcT (call_list_of) (onList o false) rfl T.n_list (by decide +kernel) (lacons (ldget (Room.u1 hr) (lv 3) ls) lanil)) pps_nil)) rfl rfl (by intro z; cases z) (by decide)))
  (scons (sif (tw (wor (LCmp.t (llt (lv 5) li)) (wor1 (LCmp.t (leqq hr.units o (lix o (ldget (Room.u1 hr) (lv 6) ls) (lv 4)) (llst false lanil)))))) (scons (sset (i := 7) sc_step.nd rfl (by first | exact Or.inl rfl | exact Or.inr rfl) (lix o (lv 2) (lcallI I_take o (hr.mono (by first | decide | omega)) rfl (lacons (lv 0) (lacons (lcB (CallR.or call_len_seq call_len_str) (onLen o) rfl T.n_len (by decide +kernel) (lacons (lv 2) lanil)) lanil)))))
  (scons (sset (i := 8) sc_step.nd rfl (by first | exact Or.inl rfl | exact Or.inr rfl) (lcallI I_worth o (hr.mono (by first | decide | omega)) rfl (lacons (lv 0) lanil)))
  (scons (sexpr (lmethI I_Store_write o (hr.mono (by first | decide | omega)) (lv 1) (lacons (lv 4) (lacons (lv 7) (lacons (lv 8) lanil)))))
  (sone (sexpr (lm PySem.F.slot_list_append PySem.F.type_list_append mt_append omAppend o (lix o (ldget (Room.u1 hr) (lv 6) ls) (lv 4)) (lacons (ltup (lacons (lv 7) (lacons (lv 8) lanil))) lanil))))))) (sone (sif (LCmp.t (llt (lv 5) li)) (scons (sexpr (lmethI I_Store_drain o (hr.mono (by first | decide | omega)) (lv 1) (lacons (lv 4) lanil)))
  (sone (sset (i := 6) sc_step.nd rfl (by first | exact Or.inl rfl | exact Or.inr rfl) (lcallI I_drained o (hr.mono (by first | decide | omega)) rfl (lacons (lv 6) (lacons (lv 2) (lacons (lv 4) lanil))))))) (scons (sexpr (lmethI I_Store_fence o (hr.mono (by first | decide | omega)) (lv 1) (lacons (lv 4) lanil)))
  (sone (swh 100000 (passes_of rfl) (LCmp.t (lne hr.units o (lix o (ldget (Room.u1 hr) (lv 6) ls) (lv 4)) (llst false lanil))) (sone (sset (i := 6) sc_step.nd rfl (by first | exact Or.inl rfl | exact Or.inr rfl) (lcallI I_drained o (hr.mono (by first | decide | omega)) rfl (lacons (lv 6) (lacons (lv 2) (lacons (lv 4) lanil))))))))))))
  (sone (sret (lv 6)))))))), g, FF.kp, FF.binds (fun _ _ _ _ _ _ us hl => match us, hl with | [_, _, _, _], _ => rfl)⟩
abbrev s_law : Stmt := top 14
theorem sc_law : FnScope ["script", "head", "some", "k", "store", "ahead", "cell", "row", "due"] ["script"] (defScope s_law) := ⟨rfl, rfl, rfl, by decide +kernel, rfl, by decide +kernel, by decide +kernel⟩
theorem ok_law {f : Addr} {fd : FuncData} (FF : Fun C.K "law" "law" s_law f fd) (T : Txt C mg) (I_stream : FnI C P mg base 1 "_law_stream" 1 F_stream) (I_take : FnI C P mg base 1 "_law_take" 2 F_take) (I_cell : FnI C P mg base 2 "_law_cell" 1 F_cell) (I_Store_init : MkI C P mg base 1 "Store" "Store" 1 F_Store_init) (I_looks : FnI C P mg base 3 "_law_looks" 2 F_looks) (I_step : FnI C P mg base 3 "_law_step" 4 F_step) : FnOk P C.w C.K mg base (L2.CX P C.w) 4 f fd ["script"] (spD C 1 F_law) :=
  fnD FF sc_law fun cdv A outer s H E hr o => (scons (sset (i := 1) sc_law.nd rfl (by first | exact Or.inl rfl | exact Or.inr rfl) (lcallI I_stream o (hr.mono (by first | decide | omega)) rfl (lacons (lix o (ladd false o (lv 0) (llst false (lacons li lanil))) li) lanil)))
  (scons (sset (i := 2) sc_law.nd rfl (by first | exact Or.inl rfl | exact Or.inr rfl) (llst true lanil))
  (scons (sfor (passes_of rfl) o (itr1 rfl T.n_range (lacons (ladd false o li (lcallI I_take o (hr.mono (by first | decide | omega)) rfl (lacons (lv 1) (lacons li lanil)))) lanil)) (pg_name (i := 3) sc_law.nd rfl (by first | exact Or.inl rfl | exact Or.inr rfl)) (tgn 3) (scons (sset (i := 6) sc_law.nd rfl (by first | exact Or.inl rfl | exact Or.inr rfl) (lcallI I_cell o (hr.mono (by first | decide | omega)) rfl (lacons (lv 1) lanil)))
  (sone (sif (LCmp.t (lnin (Room.u65 hr) o (lv 6) (lv 2))) (sone (sexpr (lm PySem.F.slot_list_append PySem.F.type_list_append mt_append omAppend o (lv 2) (lacons (lv 6) lanil)))) snil))))
  (scons (sset (i := 4) sc_law.nd rfl (by first | exact Or.inl rfl | exact Or.inr rfl) (lmakeI0 I_Store_init o (hr.mono (by first | decide | omega)) rfl))
  (scons (sset (i := 5) sc_law.nd rfl (by first | exact Or.inl rfl | exact Or.inr rfl) (lcallI I_looks o (hr.mono (by first | decide | omega)) rfl (lacons (lv 4) (lacons (lv 2) lanil))))
  (scons (sfor (passes_of rfl) o (itl o (ladd false o (llst false (lacons li lanil)) (lslice false o (lv 0) (losome li) (losome li)))) (pg_name (i := 6) sc_law.nd rfl (by first | exact Or.inl rfl | exact Or.inr rfl)) (tgn 6) (scons (sset (i := 7) sc_law.nd rfl (by first | exact Or.inl rfl | exact Or.inr rfl) (lcallI I_stream o (hr.mono (by first | decide | omega)) rfl (lacons (lv 6) lanil)))
  (sone (sfor (passes_of rfl) o (itr1 rfl T.n_range (lacons (ladd false o li (lcallI I_take o (hr.mono (by first | decide | omega)) rfl (lacons (lv 7) (lacons li lanil)))) lanil)) (pg_name (i := 3) sc_law.nd rfl (by first | exact Or.inl rfl | exact Or.inr rfl)) (tgn 3) (scons (sif (LCmp.t (lis (lv 5) ln)) (sone (sret lb)) snil)
  (scons (sset (i := 8) sc_law.nd rfl (by first | exact Or.inl rfl | exact Or.inr rfl) (lcallI I_step o (hr.mono (by first | decide | omega)) rfl (lacons (lv 7) (lacons (lv 4) (lacons (lv 2) (lacons (lv 5) lanil))))))
  (scons (sset (i := 5) sc_law.nd rfl (by first | exact Or.inl rfl | exact Or.inr rfl) (lcallI I_looks o (hr.mono (by first | decide | omega)) rfl (lacons (lv 4) (lacons (lv 2) lanil))))
  (sone (sif (LCmp.t (ldne (Room.u65 hr) o (lv 5) (lv 8))) (sone (sret lb)) snil)))))))))
  (sone (sret (LCmp.v (lisn (lv 5) ln))))))))))
end
theorem all_mk {l : PySem.W.OpenLaw} {w : World} {K : PySem.W.Frag} {h : Heap} {mg : Str → Option Value} {fa A_Store A_RingError A_NoDeed f_stream f_take f_cell f_Store_init f_Store_waits f_Store_memory f_Store_read f_looks f_worth f_Store_write f_Store_drain f_drained f_Store_fence f_step f_law : Addr} (X : K.In h) (G : h.Ns mainGlobals mg) (hfa : mg "law" = some (.ref fa))
    {od_stream od_take od_cell od_Store_init od_Store_waits od_Store_memory od_Store_read od_looks od_worth od_Store_write od_Store_drain od_drained od_Store_fence od_step od_law an_stream an_take an_cell an_Store_init an_Store_waits an_Store_memory an_Store_read an_looks an_worth an_Store_write an_Store_drain an_drained an_Store_fence an_step an_law : Option Addr} {sl_stream sl_take sl_cell sl_Store_init sl_Store_waits sl_Store_memory sl_Store_read sl_looks sl_worth sl_Store_write sl_Store_drain sl_drained sl_Store_fence sl_step sl_law : Array (Option Value)} {oc_stream oc_take oc_cell oc_Store_init oc_Store_waits oc_Store_memory oc_Store_read oc_looks oc_worth oc_Store_write oc_Store_drain oc_drained oc_Store_fence oc_step oc_law kV_stream kV_take kV_cell kV_Store_init kV_Store_waits kV_Store_memory kV_Store_read kV_looks kV_worth kV_Store_write kV_Store_drain kV_drained kV_Store_fence kV_step kV_law dc_stream dc_take dc_cell dc_Store_init dc_Store_waits dc_Store_memory dc_Store_read dc_looks dc_worth dc_Store_write dc_Store_drain dc_drained dc_Store_fence dc_step dc_law pm_stream pm_take pm_cell pm_Store_init pm_Store_waits pm_Store_memory pm_Store_read pm_looks pm_worth pm_Store_write pm_Store_drain pm_drained pm_Store_fence pm_step pm_law cd_stream cd_take cd_cell cd_Store_init cd_Store_waits cd_Store_memory cd_Store_read cd_looks cd_worth cd_Store_write cd_Store_drain cd_drained cd_Store_fence cd_step cd_law ct_stream ct_take ct_cell ct_Store_init ct_Store_waits ct_Store_memory ct_Store_read ct_looks ct_worth ct_Store_write ct_Store_drain ct_drained ct_Store_fence ct_step ct_law : Value}
    (g_Store : PySem.W.nsIn K mainGlobals "Store" = some (some (.ref A_Store)))
    (g_RingError : PySem.W.nsIn K mainGlobals "RingError" = some (some (.ref A_RingError)))
    (g_NoDeed : PySem.W.nsIn K mainGlobals "NoDeed" = some (some (.ref A_NoDeed)))
    (pg_Store : PySem.W.plainGet K A_Store Str.empty = true)
    (hd_Store : PySem.W.hasDictIn K A_Store = true)
    (po_Store : PySem.W.plainOver K A_Store = true)
    (sa_Store : PySem.W.findIn K (.ref A_Store) "__setattr__" = some (some (.builtin "object.__setattr__")))
    (mk_Store : PySem.W.makesIn K A_Store = true)
    (kc_Store : PySem.W.keepIn K (.ref A_Store) = true)
    (n_int : PySem.W.nsIn K mainGlobals "int" = some none)
    (n_len : PySem.W.nsIn K mainGlobals "len" = some none)
    (n_list : PySem.W.nsIn K mainGlobals "list" = some none)
    (n_range : PySem.W.nsIn K mainGlobals "range" = some none)
    (a_Store_rows : PySem.W.findIn K (.ref A_Store) "rows" = some none)
    (a_Store_worths : PySem.W.findIn K (.ref A_Store) "worths" = some none)
    (xE_RingError : PySem.W.excIn K A_RingError [.type "ValueError", .type "Exception", .type "BaseException", .type "object"] "ValueError.__new__" = true)
    (kE_RingError : PySem.W.keepIn K (.ref A_RingError) = true)
    (bE_RingError : PySem.W.subIn K (.ref A_RingError) (.type "BaseException") = some true)
    (tE_RingError : PySem.W.typeIn K (.ref A_RingError) = some (.type "type"))
    (iE_RingError : PySem.W.isClsIn K A_RingError = true)
    (xE_NoDeed : PySem.W.excIn K A_NoDeed [.type "ValueError", .type "Exception", .type "BaseException", .type "object"] "ValueError.__new__" = true)
    (kE_NoDeed : PySem.W.keepIn K (.ref A_NoDeed) = true)
    (bE_NoDeed : PySem.W.subIn K (.ref A_NoDeed) (.type "BaseException") = some true)
    (tE_NoDeed : PySem.W.typeIn K (.ref A_NoDeed) = some (.type "type"))
    (iE_NoDeed : PySem.W.isClsIn K A_NoDeed = true)
    (g_stream : PySem.W.nsIn K mainGlobals "_law_stream" = some (some (.ref f_stream)))
    (l_stream : K.lookup f_stream = some ⟨oc_stream, od_stream, .func (PySem.W.fnOf "_law_stream" "_law_stream" (defArgs s_stream) (defBody s_stream) (defScope s_stream) .none kV_stream dc_stream pm_stream an_stream cd_stream ct_stream), sl_stream⟩)
    (c_stream : PySem.W.codeIn K cd_stream "_law_stream" = true)
    (kp_stream : PySem.W.keepIn K (.ref f_stream) = true)
    (g_take : PySem.W.nsIn K mainGlobals "_law_take" = some (some (.ref f_take)))
    (l_take : K.lookup f_take = some ⟨oc_take, od_take, .func (PySem.W.fnOf "_law_take" "_law_take" (defArgs s_take) (defBody s_take) (defScope s_take) .none kV_take dc_take pm_take an_take cd_take ct_take), sl_take⟩)
    (c_take : PySem.W.codeIn K cd_take "_law_take" = true)
    (kp_take : PySem.W.keepIn K (.ref f_take) = true)
    (g_cell : PySem.W.nsIn K mainGlobals "_law_cell" = some (some (.ref f_cell)))
    (l_cell : K.lookup f_cell = some ⟨oc_cell, od_cell, .func (PySem.W.fnOf "_law_cell" "_law_cell" (defArgs s_cell) (defBody s_cell) (defScope s_cell) .none kV_cell dc_cell pm_cell an_cell cd_cell ct_cell), sl_cell⟩)
    (c_cell : PySem.W.codeIn K cd_cell "_law_cell" = true)
    (kp_cell : PySem.W.keepIn K (.ref f_cell) = true)
    (m_Store_init : PySem.W.findIn K (.ref A_Store) "__init__" = some (some (.ref f_Store_init)))
    (i_Store_init : PySem.W.isFn K (.ref f_Store_init) = true)
    (l_Store_init : K.lookup f_Store_init = some ⟨oc_Store_init, od_Store_init, .func (PySem.W.fnOf "__init__" "Store.__init__" (defArgs s_Store_init) (defBody s_Store_init) (defScope s_Store_init) .none kV_Store_init dc_Store_init pm_Store_init an_Store_init cd_Store_init ct_Store_init), sl_Store_init⟩)
    (c_Store_init : PySem.W.codeIn K cd_Store_init "Store.__init__" = true)
    (kp_Store_init : PySem.W.keepIn K (.ref f_Store_init) = true)
    (m_Store_waits : PySem.W.findIn K (.ref A_Store) "waits" = some (some (.ref f_Store_waits)))
    (i_Store_waits : PySem.W.isFn K (.ref f_Store_waits) = true)
    (l_Store_waits : K.lookup f_Store_waits = some ⟨oc_Store_waits, od_Store_waits, .func (PySem.W.fnOf "waits" "Store.waits" (defArgs s_Store_waits) (defBody s_Store_waits) (defScope s_Store_waits) .none kV_Store_waits dc_Store_waits pm_Store_waits an_Store_waits cd_Store_waits ct_Store_waits), sl_Store_waits⟩)
    (c_Store_waits : PySem.W.codeIn K cd_Store_waits "Store.waits" = true)
    (kp_Store_waits : PySem.W.keepIn K (.ref f_Store_waits) = true)
    (m_Store_memory : PySem.W.findIn K (.ref A_Store) "memory" = some (some (.ref f_Store_memory)))
    (i_Store_memory : PySem.W.isFn K (.ref f_Store_memory) = true)
    (l_Store_memory : K.lookup f_Store_memory = some ⟨oc_Store_memory, od_Store_memory, .func (PySem.W.fnOf "memory" "Store.memory" (defArgs s_Store_memory) (defBody s_Store_memory) (defScope s_Store_memory) .none kV_Store_memory dc_Store_memory pm_Store_memory an_Store_memory cd_Store_memory ct_Store_memory), sl_Store_memory⟩)
    (c_Store_memory : PySem.W.codeIn K cd_Store_memory "Store.memory" = true)
    (kp_Store_memory : PySem.W.keepIn K (.ref f_Store_memory) = true)
    (m_Store_read : PySem.W.findIn K (.ref A_Store) "read" = some (some (.ref f_Store_read)))
    (i_Store_read : PySem.W.isFn K (.ref f_Store_read) = true)
    (l_Store_read : K.lookup f_Store_read = some ⟨oc_Store_read, od_Store_read, .func (PySem.W.fnOf "read" "Store.read" (defArgs s_Store_read) (defBody s_Store_read) (defScope s_Store_read) .none kV_Store_read dc_Store_read pm_Store_read an_Store_read cd_Store_read ct_Store_read), sl_Store_read⟩)
    (c_Store_read : PySem.W.codeIn K cd_Store_read "Store.read" = true)
    (kp_Store_read : PySem.W.keepIn K (.ref f_Store_read) = true)
    (g_looks : PySem.W.nsIn K mainGlobals "_law_looks" = some (some (.ref f_looks)))
    (l_looks : K.lookup f_looks = some ⟨oc_looks, od_looks, .func (PySem.W.fnOf "_law_looks" "_law_looks" (defArgs s_looks) (defBody s_looks) (defScope s_looks) .none kV_looks dc_looks pm_looks an_looks cd_looks ct_looks), sl_looks⟩)
    (c_looks : PySem.W.codeIn K cd_looks "_law_looks" = true)
    (kp_looks : PySem.W.keepIn K (.ref f_looks) = true)
    (g_worth : PySem.W.nsIn K mainGlobals "_law_worth" = some (some (.ref f_worth)))
    (l_worth : K.lookup f_worth = some ⟨oc_worth, od_worth, .func (PySem.W.fnOf "_law_worth" "_law_worth" (defArgs s_worth) (defBody s_worth) (defScope s_worth) .none kV_worth dc_worth pm_worth an_worth cd_worth ct_worth), sl_worth⟩)
    (c_worth : PySem.W.codeIn K cd_worth "_law_worth" = true)
    (kp_worth : PySem.W.keepIn K (.ref f_worth) = true)
    (m_Store_write : PySem.W.findIn K (.ref A_Store) "write" = some (some (.ref f_Store_write)))
    (i_Store_write : PySem.W.isFn K (.ref f_Store_write) = true)
    (l_Store_write : K.lookup f_Store_write = some ⟨oc_Store_write, od_Store_write, .func (PySem.W.fnOf "write" "Store.write" (defArgs s_Store_write) (defBody s_Store_write) (defScope s_Store_write) .none kV_Store_write dc_Store_write pm_Store_write an_Store_write cd_Store_write ct_Store_write), sl_Store_write⟩)
    (c_Store_write : PySem.W.codeIn K cd_Store_write "Store.write" = true)
    (kp_Store_write : PySem.W.keepIn K (.ref f_Store_write) = true)
    (m_Store_drain : PySem.W.findIn K (.ref A_Store) "drain" = some (some (.ref f_Store_drain)))
    (i_Store_drain : PySem.W.isFn K (.ref f_Store_drain) = true)
    (l_Store_drain : K.lookup f_Store_drain = some ⟨oc_Store_drain, od_Store_drain, .func (PySem.W.fnOf "drain" "Store.drain" (defArgs s_Store_drain) (defBody s_Store_drain) (defScope s_Store_drain) .none kV_Store_drain dc_Store_drain pm_Store_drain an_Store_drain cd_Store_drain ct_Store_drain), sl_Store_drain⟩)
    (c_Store_drain : PySem.W.codeIn K cd_Store_drain "Store.drain" = true)
    (kp_Store_drain : PySem.W.keepIn K (.ref f_Store_drain) = true)
    (g_drained : PySem.W.nsIn K mainGlobals "_law_drained" = some (some (.ref f_drained)))
    (l_drained : K.lookup f_drained = some ⟨oc_drained, od_drained, .func (PySem.W.fnOf "_law_drained" "_law_drained" (defArgs s_drained) (defBody s_drained) (defScope s_drained) .none kV_drained dc_drained pm_drained an_drained cd_drained ct_drained), sl_drained⟩)
    (c_drained : PySem.W.codeIn K cd_drained "_law_drained" = true)
    (kp_drained : PySem.W.keepIn K (.ref f_drained) = true)
    (m_Store_fence : PySem.W.findIn K (.ref A_Store) "fence" = some (some (.ref f_Store_fence)))
    (i_Store_fence : PySem.W.isFn K (.ref f_Store_fence) = true)
    (l_Store_fence : K.lookup f_Store_fence = some ⟨oc_Store_fence, od_Store_fence, .func (PySem.W.fnOf "fence" "Store.fence" (defArgs s_Store_fence) (defBody s_Store_fence) (defScope s_Store_fence) .none kV_Store_fence dc_Store_fence pm_Store_fence an_Store_fence cd_Store_fence ct_Store_fence), sl_Store_fence⟩)
    (c_Store_fence : PySem.W.codeIn K cd_Store_fence "Store.fence" = true)
    (kp_Store_fence : PySem.W.keepIn K (.ref f_Store_fence) = true)
    (g_step : PySem.W.nsIn K mainGlobals "_law_step" = some (some (.ref f_step)))
    (l_step : K.lookup f_step = some ⟨oc_step, od_step, .func (PySem.W.fnOf "_law_step" "_law_step" (defArgs s_step) (defBody s_step) (defScope s_step) .none kV_step dc_step pm_step an_step cd_step ct_step), sl_step⟩)
    (c_step : PySem.W.codeIn K cd_step "_law_step" = true)
    (kp_step : PySem.W.keepIn K (.ref f_step) = true)
    (g_law : PySem.W.nsIn K mainGlobals "law" = some (some (.ref f_law)))
    (l_law : K.lookup f_law = some ⟨oc_law, od_law, .func (PySem.W.fnOf "law" "law" (defArgs s_law) (defBody s_law) (defScope s_law) .none kV_law dc_law pm_law an_law cd_law ct_law), sl_law⟩)
    (c_law : PySem.W.codeIn K cd_law "law" = true)
    (kp_law : PySem.W.keepIn K (.ref f_law) = true)
    (ht : ∀ ns : List Int, ns.length ≤ 63 → ∃ S', F_law [.scr (ns.map .int)] S0 = .ok (.bl true) S') :
    ∃ fd : FuncData, (∀ (s : Shared) (u : Value), BindsTo s fd ⟨[u], []⟩ [("script", u)]) ∧ ∀ base : Heap, K.In base → base.Ns mainGlobals mg → FnOk l.prog w K mg base (L2.CX l.prog w) 4 fa fd ["script"] (spLaw K) := by
  have e := hfa.symm.trans (PySem.W.mg_of X G g_law)
  cases e
  obtain ⟨ca_, hca⟩ : ∃ g : String → Addr, g = fun s => if s = "Store" then A_Store else if s = "RingError" then A_RingError else if s = "NoDeed" then A_NoDeed else 0 := ⟨_, rfl⟩
  have eq_Store : ca_ "Store" = A_Store := by simp [hca]
  have eq_RingError : ca_ "RingError" = A_RingError := by simp [hca]
  have eq_NoDeed : ca_ "NoDeed" = A_NoDeed := by simp [hca]
  have cl_Store : Cls K (ca_ "Store") := by rw [eq_Store]; exact ⟨pg_Store, hd_Store, po_Store, sa_Store⟩
  have T : Txt ⟨K, w, ca_⟩ mg := ⟨PySem.W.mg_none_of X G n_int, PySem.W.mg_none_of X G n_len, PySem.W.mg_none_of X G n_list, PySem.W.mg_none_of X G n_range, ⟨cl_Store, by show PySem.W.findIn K (.ref (ca_ "Store")) "rows" = some none; rw [eq_Store]; exact a_Store_rows⟩, ⟨cl_Store, by show PySem.W.findIn K (.ref (ca_ "Store")) "worths" = some none; rw [eq_Store]; exact a_Store_worths⟩, (by show mg "RingError" = some (.ref (ca_ "RingError")); rw [eq_RingError]; exact PySem.W.mg_of X G g_RingError), (by show mg "NoDeed" = some (.ref (ca_ "NoDeed")); rw [eq_NoDeed]; exact PySem.W.mg_of X G g_NoDeed), (by show PySem.W.excIn K (ca_ "NoDeed") _ _ = true; rw [eq_NoDeed]; exact xE_NoDeed), (by show PySem.W.keepIn K (.ref (ca_ "NoDeed")) = true; rw [eq_NoDeed]; exact kE_NoDeed), (by show PySem.W.subIn K (.ref (ca_ "NoDeed")) (.type "BaseException") = some true; rw [eq_NoDeed]; exact bE_NoDeed), (by show PySem.W.typeIn K (.ref (ca_ "NoDeed")) = some (.type "type"); rw [eq_NoDeed]; exact tE_NoDeed)⟩
  refine ⟨PySem.W.fnOf "law" "law" (defArgs s_law) (defBody s_law) (defScope s_law) .none kV_law dc_law pm_law an_law cd_law ct_law, fun s v => .of_eq rfl, fun base _ _ => ?_⟩
  have I_stream := ok_stream (P := l.prog) (base := base) (C := ⟨K, w, ca_⟩) (fun_mk (st := s_stream) l_stream c_stream kp_stream) (PySem.W.mg_of X G g_stream) T 
  have I_take := ok_take (P := l.prog) (base := base) (C := ⟨K, w, ca_⟩) (fun_mk (st := s_take) l_take c_take kp_take) (PySem.W.mg_of X G g_take) T 
  have I_cell := ok_cell (P := l.prog) (base := base) (C := ⟨K, w, ca_⟩) (fun_mk (st := s_cell) l_cell c_cell kp_cell) (PySem.W.mg_of X G g_cell) T I_take
  have I_Store_init := ok_Store_init (P := l.prog) (base := base) (C := ⟨K, w, ca_⟩) (fun_mk (st := s_Store_init) l_Store_init c_Store_init kp_Store_init) (by show Mk K (ca_ "Store") _; rw [eq_Store]; exact ⟨mk_Store, m_Store_init, i_Store_init, kc_Store⟩) (by show mg "Store" = some (.ref (ca_ "Store")); rw [eq_Store]; exact PySem.W.mg_of X G g_Store) T 
  have I_Store_waits := ok_Store_waits (P := l.prog) (base := base) (C := ⟨K, w, ca_⟩) (fun_mk (st := s_Store_waits) l_Store_waits c_Store_waits kp_Store_waits) (by show Meth K (ca_ "Store") _ _; rw [eq_Store]; exact ⟨m_Store_waits, i_Store_waits, kp_Store_waits⟩) cl_Store T 
  have I_Store_memory := ok_Store_memory (P := l.prog) (base := base) (C := ⟨K, w, ca_⟩) (fun_mk (st := s_Store_memory) l_Store_memory c_Store_memory kp_Store_memory) (by show Meth K (ca_ "Store") _ _; rw [eq_Store]; exact ⟨m_Store_memory, i_Store_memory, kp_Store_memory⟩) cl_Store T 
  have I_Store_read := ok_Store_read (P := l.prog) (base := base) (C := ⟨K, w, ca_⟩) (fun_mk (st := s_Store_read) l_Store_read c_Store_read kp_Store_read) (by show Meth K (ca_ "Store") _ _; rw [eq_Store]; exact ⟨m_Store_read, i_Store_read, kp_Store_read⟩) cl_Store T I_Store_memory
  have I_looks := ok_looks (P := l.prog) (base := base) (C := ⟨K, w, ca_⟩) (fun_mk (st := s_looks) l_looks c_looks kp_looks) (PySem.W.mg_of X G g_looks) T I_Store_waits I_Store_memory I_Store_read
  have I_worth := ok_worth (P := l.prog) (base := base) (C := ⟨K, w, ca_⟩) (fun_mk (st := s_worth) l_worth c_worth kp_worth) (PySem.W.mg_of X G g_worth) T I_take
  have I_Store_write := ok_Store_write (P := l.prog) (base := base) (C := ⟨K, w, ca_⟩) (fun_mk (st := s_Store_write) l_Store_write c_Store_write kp_Store_write) (by show Meth K (ca_ "Store") _ _; rw [eq_Store]; exact ⟨m_Store_write, i_Store_write, kp_Store_write⟩) cl_Store T 
  have I_Store_drain := ok_Store_drain (P := l.prog) (base := base) (C := ⟨K, w, ca_⟩) (fun_mk (st := s_Store_drain) l_Store_drain c_Store_drain kp_Store_drain) (by show Meth K (ca_ "Store") _ _; rw [eq_Store]; exact ⟨m_Store_drain, i_Store_drain, kp_Store_drain⟩) cl_Store T 
  have I_drained := ok_drained (P := l.prog) (base := base) (C := ⟨K, w, ca_⟩) (fun_mk (st := s_drained) l_drained c_drained kp_drained) (PySem.W.mg_of X G g_drained) T 
  have I_Store_fence := ok_Store_fence (P := l.prog) (base := base) (C := ⟨K, w, ca_⟩) (fun_mk (st := s_Store_fence) l_Store_fence c_Store_fence kp_Store_fence) (by show Meth K (ca_ "Store") _ _; rw [eq_Store]; exact ⟨m_Store_fence, i_Store_fence, kp_Store_fence⟩) cl_Store T I_Store_drain
  have I_step := ok_step (P := l.prog) (base := base) (C := ⟨K, w, ca_⟩) (fun_mk (st := s_step) l_step c_step kp_step) (PySem.W.mg_of X G g_step) T I_take I_worth I_Store_write I_Store_drain I_drained I_Store_fence
  exact law_imp (C := ⟨K, w, ca_⟩) (ok_law (P := l.prog) (base := base) (C := ⟨K, w, ca_⟩) (fun_mk (st := s_law) l_law c_law kp_law) T I_stream I_take I_cell I_Store_init I_looks I_step) ht

end K08
end
section
local macro_rules | `(tactic| walk_at "d") => `(tactic| first | omega | (simp only [List.length_cons, List.length_nil, List.length_append, List.length_map, List.length_take, List.length_drop]; omega) | (simp; done))
namespace K08
open PySem PySem.Spec PyProof.Rows L2 DL
abbrev nil0 : Nat → Prop := fun _ => False
theorem putN {s : HS} {n : Nat} {o : DO} : DL.Fr (fun x => x = n) s (s.put n o) := Fr.put fun _ => rfl
theorem Pl38 {d : D} (h : Pl 3 d = true) : Pl 8 d = true := Pl_le h (by omega)
open Classical in
theorem found_spec {c z0 : D} {row : List (D × D)} {s : HS} (hc : Pl 3 c = true) (hr : Sh3 row) {sd : Sl} (l : sd.length = 8) (h3 : slot sd 3 = some c) (h5 : slot sd 5 = some z0) :
    ∃ sd', forL ⟨row.map tp, []⟩ (tgT [6, 7]) L_looks_1 (row.map tp) sd s = .nx sd' s ∧ sd'.length = 8 ∧ slot sd' 5 = some (lastW c z0 row) ∧ ∀ i, i < 5 → slot sd' i = slot sd i := by
  obtain ⟨sd', s', e, done, rest, hd, hr2, l', g5, old, hs⟩ := forL_nx0 (all := row.map tp) (t := tgT [6, 7]) (b := L_looks_1)
    (fun ds sd2 z => ∃ done rest, row = done ++ rest ∧ ds = rest.map tp ∧ sd2.length = 8 ∧ slot sd2 5 = some (lastW c z0 done) ∧ (∀ i, i < 5 → slot sd2 i = slot sd i) ∧ z = s) (by
      rintro d ds sd2 z ⟨done, rest, hd, hr2, l2, g5, old, rfl⟩
      cases rest with
      | nil => cases hr2
      | cons p rest =>
      obtain ⟨rfl, rfl⟩ := List.cons.inj hr2
      have hp := hr p (by rw [hd]; simp)
      refine ⟨(sd2.set 6 (some p.1)).set 7 (some p.2), rfl, ?_⟩
      obtain ⟨sd3, h3'⟩ : ∃ sd3, (sd2.set 6 (some p.1)).set 7 (some p.2) = sd3 := ⟨_, rfl⟩
      have k6 : slot sd3 6 = some p.1 := by rw [← h3']; simp [l2]
      have k7 : slot sd3 7 = some p.2 := by rw [← h3']; simp [l2]
      have kk : ∀ i, i < 6 → slot sd3 i = slot sd2 i := fun i hi => by rw [← h3', slot_set, if_neg (by omega), slot_set, if_neg (by omega)]
      have k3 : slot sd3 3 = some c := by rw [kk 3 (by omega), old 3 (by omega), h3]
      have k5 : slot sd3 5 = some (lastW c z0 done) := by rw [kk 5 (by omega), g5]
      have l3 : sd3.length = 8 := by rw [← h3']; simpa using l2
      have eq := o_eqPl (s := z) false (Pl38 hp.1) (Pl38 hc)
      have ew : lastW c z0 (done ++ [p]) = if p.1 = c then p.2 else lastW c z0 done := by rw [lastW_app]; simp [lastW]
      have nm : row = (done ++ [p]) ++ rest := by rw [hd]; simp
      rw [h3']
      by_cases q : p.1 = c
      · rw [decide_eq_true q] at eq
        refine Nx_of (sd := sd3.set 5 (some p.2)) (s := z) ?_ ⟨done ++ [p], rest, nm, rfl, by simpa using l3, by rw [ew, if_pos q]; simp [l3], fun i hi => by rw [slot_set, if_neg (by omega), kk i (by omega), old i hi], rfl⟩
        unfold L_looks_1
        simp (disch := walk_at "d") [k3, k6, k7, eq, l3]
      · rw [decide_eq_false q] at eq
        refine Nx_of (sd := sd3) (s := z) ?_ ⟨done ++ [p], rest, nm, rfl, l3, by rw [ew, if_neg q]; exact k5, fun i hi => by rw [kk i (by omega), old i hi], rfl⟩
        unfold L_looks_1
        simp (disch := walk_at "d") [k3, k6, k7, eq, l3]) (row.map tp) sd s ⟨[], row, rfl, rfl, l, h5, fun _ _ => rfl, rfl⟩
  obtain rfl : rest = [] := by
    cases rest with
    | nil => rfl
    | cons _ _ => cases hr2
  rw [List.append_nil] at hd
  subst hd
  subst hs
  exact ⟨sd', e, l', g5, old⟩
/-- what a look tells -/
abbrev rowsD (st : Sto) : D := .lst [.lst (st.r0.map tp), .lst (st.r1.map tp)]
abbrev tellO (V W : D) : DO := .dict [(.inr (Str.ofString "rows"), V), (.inr (Str.ofString "memory"), W)]
theorem dg_rows {s : HS} {t : Nat} {V W : D} (h : s.h t = some (tellO V W)) : oDGet (.ref t) (.str (Str.ofString "rows")) s = .ok V s := by rw [o_dget h]; rfl
theorem dg_memory {s : HS} {t : Nat} {V W : D} (h : s.h t = some (tellO V W)) : oDGet (.ref t) (.str (Str.ofString "memory")) s = .ok W s := by rw [o_dget h]; rfl
theorem looks2_spec {s : HS} {r t : Nat} {st : Sto} {W : D} {c : D} (h : StAt s r st) (sm : Sm st) (ht : s.h t = some (tellO (rowsD st) W)) (hc : Pl 3 c = true) {j : Int} (hj : Side j) {sd : Sl} (l : sd.length = 8) (h0 : slot sd 0 = some (.ref r)) (h2 : slot sd 2 = some (.ref t)) (h3 : slot sd 3 = some c) (h4 : slot sd 4 = some (.int j)) :
    (L_looks_2 sd s).Nx fun sd' s' => (sd'.length = 8 ∧ ∀ i, i < 5 → slot sd' i = slot sd i) ∧ s' = s := by
  have e1 := memory_spec h (Pl36 hc)
  have e2 := read_spec h hj (Pl36 hc)
  have e3 := dg_rows ht
  have ix : oIx (rowsD st) (.int j) s = .ok (.lst ((st.row j).map tp)) s := by
    rw [o_ixL]
    rcases hj with rfl | rfl <;> rfl
  obtain ⟨sd', e4, l', g5, old⟩ := found_spec (s := s) (z0 := st.mv c) hc (sm.row j) (sd := sd.set 5 (some (st.mv c))) (by simpa using l) (by rw [slot_set, if_neg (by omega)]; exact h3) (by simp [l])
  have old : ∀ i, i < 5 → slot sd' i = slot sd i := fun i hi => by rw [old i hi, slot_set, if_neg (by omega)]
  have g0 := (old 0 (by omega)).trans h0
  have g3 := (old 3 (by omega)).trans h3
  have g4 := (old 4 (by omega)).trans h4
  change slot sd' 5 = some (st.rd j c) at g5
  classical
  have eq := o_eqPl (s := s) true (Pl38 (sm.rd j c)) (Pl38 (sm.rd j c))
  rw [decide_eq_true rfl] at eq
  refine Nx_of (sd := sd') (s := s) ?_ ⟨⟨l', old⟩, rfl⟩
  generalize st.rd j c = w at *
  generalize st.mv c = m at *
  generalize (st.row j).map tp = R at *
  generalize rowsD st = V at *
  unfold L_looks_2
  simp (disch := walk_at "d") [l, h0, h2, h3, h4, me_memory h, e1, e3, ix, e4, g0, g3, g4, g5, me_read h, e2, eq]
theorem looks3_spec {s : HS} {r t m : Nat} {st : Sto} {c : D} {ds : List D} (h : StAt s r st) (sm : Sm st) (ht : s.h t = some (tellO (rowsD st) (.ref m))) (hm : s.h m = some (.lst ds)) (hl : ds.length < 16777216) (tm : t ≠ m) (rm : m < r ∨ r + 4 ≤ m) (hc : Pl 3 c = true) {sd : Sl} (l : sd.length = 8) (h0 : slot sd 0 = some (.ref r)) (h2 : slot sd 2 = some (.ref t)) (h3 : slot sd 3 = some c) :
    (L_looks_3 sd s).Nx fun sd' s' => (sd'.length = 8 ∧ ∀ i, i < 4 → slot sd' i = slot sd i) ∧ s' = s.put m (.lst (ds ++ [st.mv c])) := by
  have e1 := memory_spec h (Pl36 hc)
  have e2 := dg_memory ht
  have ap := o_app hm (st.mv c) hl
  obtain ⟨s1, h1⟩ : ∃ s1, s.put m (.lst (ds ++ [st.mv c])) = s1 := ⟨_, rfl⟩
  rw [h1] at ap
  have f1 : Fr (fun x => x = m) s s1 := by rw [← h1]; exact putN
  have S1 : StAt s1 r st := h.fr f1 fun x a b z => by omega
  have ht1 : s1.h t = some (tellO (rowsD st) (.ref m)) := by rw [← h1, put_ne tm]; exact ht
  obtain ⟨sd', s2, e3, ⟨l', old⟩, hs⟩ := forL_upto (all := rngD 0 2) (t := tgN 4) (b := L_looks_2)
    (fun j sd2 z => (sd2.length = 8 ∧ ∀ i, i < 4 → slot sd2 i = slot sd i) ∧ z = s1) 2 (by
      rintro j sd2 z hj ⟨⟨l2, old⟩, rfl⟩
      refine ⟨_, rfl, ?_⟩
      have g : ∀ i, i < 4 → slot (sd2.set 4 (some (.int (j : Int)))) i = slot sd i := fun i hi => by rw [slot_set, if_neg (by omega), old i hi]
      refine (looks2_spec S1 sm ht1 hc (j := (j : Int)) (by unfold Side; omega) (sd := sd2.set 4 (some (.int (j : Int)))) (by simpa using l2) ((g 0 (by omega)).trans h0) ((g 2 (by omega)).trans h2) ((g 3 (by omega)).trans h3) (by simp [l2])).imp fun sd3 s3 ⟨⟨a, b⟩, c⟩ => ⟨⟨a, fun i hi => by rw [b i (by omega), g i hi]⟩, c⟩) sd s1 ⟨⟨l, fun _ _ => rfl⟩, rfl⟩
  subst hs
  refine Nx_of (sd := sd') (s := s2) ?_ ⟨⟨l', old⟩, h1.symm⟩
  generalize rowsD st = V at *
  generalize st.mv c = w at *
  unfold L_looks_3
  simp (disch := walk_at "d") [h0, h2, h3, e2, me_memory h, e1, getL_ref hm, ap, e3]
theorem looks_spec {s : HS} {r k : Nat} {st : Sto} {cs : List D} (h : StAt s r st) (sm : Sm st) (hx : s.h k = some (.lst cs)) (hk : k < s.n) (hc : ∀ c ∈ cs, Pl 3 c = true) (hl : cs.length ≤ 1000) (hz : st.size < 1000000) :
    ∃ s', F_looks [.ref r, .ref k] s = .ok (.ref (s.n + 1)) s' ∧ s'.h (s.n + 1) = some (tellO (rowsD st) (.ref s.n)) ∧ s'.h s.n = some (.lst (cs.map st.mv)) ∧ s'.n = s.n + 2 ∧ Fr nil0 s s' := by
  have w0 := waits_spec h (side := 0) (.inl rfl) hz
  have w1 := waits_spec h (side := 1) (.inr rfl) hz
  have r0 : st.row 0 = st.r0 := rfl
  have r1 : st.row 1 = st.r1 := rfl
  rw [r0] at w0
  rw [r1] at w1
  have hn := h.n
  obtain ⟨s1, h1⟩ : ∃ s1, (s.new (.lst [])).new (tellO (rowsD st) (.ref s.n)) = s1 := ⟨_, rfl⟩
  have f1 : Fr nil0 s s1 := by rw [← h1]; exact Fr.new.trans Fr.new
  have n1 : s1.n = s.n + 2 := by rw [← h1]; rfl
  have t1 : s1.h (s.n + 1) = some (tellO (rowsD st) (.ref s.n)) := by rw [← h1]; exact new_same
  have m1 : s1.h s.n = some (.lst []) := by rw [← h1, new_ne (by simp)]; exact new_same
  have hx1 : s1.h k = some (.lst cs) := (f1.h k hk fun z => z).trans hx
  obtain ⟨sd', s', e, done, rest, hd, hr2, ⟨l', old⟩, t2, m2, n2, f2⟩ := forL_nx (r := ⟨cs, [(k, .lst cs)]⟩) (t := tgN 3) (b := L_looks_3)
    (fun ds sd z => ∃ done rest, cs = done ++ rest ∧ ds = rest ∧ (sd.length = 8 ∧ ∀ i, i < 3 → slot sd i = slot [some (.ref r), some (.ref k), some (.ref (s.n + 1)), none, none, none, none, none] i) ∧ z.h (s.n + 1) = some (tellO (rowsD st) (.ref s.n)) ∧ z.h s.n = some (.lst (done.map st.mv)) ∧ z.n = s.n + 2 ∧ Fr nil0 s z)
    (by
      rintro ds sd z ⟨_, _, _, _, _, _, _, _, f⟩ p hp
      rw [List.mem_singleton.mp hp]
      exact (f.h k hk fun z => z).trans hx)
    (by
      rintro d ds sd z ⟨done, rest, hd, rfl, ⟨l, old⟩, t2, m2, n2, f2⟩
      refine ⟨_, rfl, ?_⟩
      have hdl : done.length ≤ 1000 := by
        have := congrArg List.length hd
        rw [List.length_append] at this
        omega
      have g : ∀ i, i < 3 → slot (sd.set 3 (some d)) i = slot [some (.ref r), some (.ref k), some (.ref (s.n + 1)), none, none, none, none, none] i := fun i hi => by rw [slot_set, if_neg (by omega), old i hi]
      refine (looks3_spec (h.fr f2 fun _ _ _ z => z) sm t2 m2 (by rw [List.length_map]; omega) (by omega) (.inr (by omega)) (hc d (by rw [hd]; simp)) (sd := sd.set 3 (some d)) (by simpa using l) (g 0 (by omega)) (g 2 (by omega)) (by simp [l])).imp fun sd2 s2 ⟨⟨a, b⟩, c⟩ => ?_
      subst c
      refine ⟨done ++ [d], ds, by rw [hd]; simp, rfl, ⟨a, fun i hi => by rw [b i (by omega), g i hi]⟩, by rw [put_ne (by omega)]; exact t2, by rw [put_same]; simp, by rw [put_n]; exact n2, f2.tr putN (fun x hx z => by omega)⟩)
    cs [some (.ref r), some (.ref k), some (.ref (s.n + 1)), none, none, none, none, none] s1 ⟨[], cs, rfl, rfl, ⟨rfl, fun _ _ => rfl⟩, t1, m1, n1, f1⟩
  rw [← hr2, List.append_nil] at hd
  subst hd
  have g2 : slot sd' 2 = some (.ref (s.n + 1)) := (old 2 (by omega)).trans rfl
  refine ⟨s', ?_, t2, m2, n2, f2⟩
  have mg : ∀ V W : D, mgK [] [(.inr (Str.ofString "rows"), V), (.inr (Str.ofString "memory"), W)] = [(.inr (Str.ofString "rows"), V), (.inr (Str.ofString "memory"), W)] := fun _ _ => rfl
  unfold F_looks f_looks
  simp (disch := walk_at "d") [me_waits h, w0, w1, mg, h1, srcL_ref hx1, e, g2]
/-! ### what was told, as an object -/
def Bd (b : Nat) (s : HS) (x : D) : Prop := ∀ n, x = .ref n → b ≤ n ∧ n < s.n
theorem bd_v {b : Nat} {s : HS} {ds : List D} : Bd b s (.lst ds) := fun n e => nomatch e
theorem bd_r {b n : Nat} {s : HS} (h : b ≤ n ∧ n < s.n) : Bd b s (.ref n) := fun m e => by cases e; exact h
theorem lis_fr {W : Nat → Prop} {b : Nat} {s s' : HS} {x : D} {ds : List D} (h : Lis s x ds) (bd : Bd b s x) (f : DL.Fr W s s') (hw : ∀ m, b ≤ m → m < s.n → ¬ W m) : Lis s' x ds := by
  rcases h with rfl | ⟨n, rfl, e⟩
  · exact .v
  · obtain ⟨h1, h2⟩ := bd n rfl
    exact .r ((f.h n h2 (hw n h1 h2)).trans e)
theorem bd_fr {W : Nat → Prop} {b : Nat} {s s' : HS} {x : D} (bd : Bd b s x) (f : DL.Fr W s s') : Bd b s' x := fun n e => by
  have := bd n e
  have := f.n
  omega
structure Tl (s : HS) (b t : Nat) (st : Sto) (cs : List D) : Prop where
  ex : ∃ V W x0 x1, s.h t = some (tellO V W) ∧ Lis s V [x0, x1] ∧ Lis s x0 (st.r0.map tp) ∧ Lis s x1 (st.r1.map tp) ∧ Lis s W (cs.map st.mv) ∧ Bd b s V ∧ Bd b s W ∧ Bd b s x0 ∧ Bd b s x1
  tb : b ≤ t ∧ t < s.n
theorem Tl.fr {W : Nat → Prop} {s s' : HS} {b t : Nat} {st : Sto} {cs : List D} (h : Tl s b t st cs) (f : DL.Fr W s s') (hw : ∀ m, b ≤ m → m < s.n → ¬ W m) : Tl s' b t st cs := by
  obtain ⟨V, W', x0, x1, h1, h2, h3, h4, h5, b1, b2, b3, b4⟩ := h.ex
  exact ⟨⟨V, W', x0, x1, (f.h t h.tb.2 (hw t h.tb.1 h.tb.2)).trans h1, lis_fr h2 b1 f hw, lis_fr h3 b3 f hw, lis_fr h4 b4 f hw, lis_fr h5 b2 f hw, bd_fr b1 f, bd_fr b2 f, bd_fr b3 f, bd_fr b4 f⟩, h.tb.1, Nat.lt_of_lt_of_le h.tb.2 f.n⟩
theorem lis_ix {s : HS} {x : D} {ds : List D} (h : Lis s x ds) (i : Int) : oIx x (.int i) s = match atI ds i with
    | some d => .ok d s
    | none => .bad := by
  rcases h with rfl | ⟨n, rfl, e⟩
  · exact o_ixL _ _
  · exact o_ixR e i
theorem lis_list {s : HS} {x : D} {ds : List D} (h : Lis s x ds) (al : Bool) : oList al [x] s = mkL al ds s := by
  rcases h with rfl | ⟨n, rfl, e⟩
  · rfl
  · show (match getL s (.ref n) with
      | some ds => mkL al ds s
      | none => .bad) = _
    rw [getL_ref e]
theorem drained_spec {s : HS} {b t k : Nat} {st : Sto} {cs : List D} (h : Tl s b t st cs) (hb : b ≤ s.n) (ok : OkSt st) (sm : Sm st) (hx : s.h k = some (.lst cs)) (hk : k < s.n) (hc : ∀ c ∈ cs, Pl 3 c = true) (hl : cs.length ≤ 1000) (hz : st.size < 1000000) {side : Int} (hs : Side side) {p : D × D} {l : List (D × D)} (he : st.row side = p :: l) :
    ∃ s', F_drained [.ref t, .ref k, .int side] s = .ok (.ref (s.n + 2)) s' ∧ Tl s' b (s.n + 2) ((st.putMem p).setRow side l) cs ∧ s'.n = s.n + 3 ∧ DL.Fr nil0 s s' := by
  classical
  obtain ⟨V, W, x0, x1, h1, h2, h3, h4, h5, b1, b2, b3, b4⟩ := h.ex
  have hp := ok.row side p (by rw [he]; simp)
  have e1 := dg_rows h1
  have e2 := dg_memory h1
  have z0 : st.r0.length ≤ 1000000 := by have := size_row st 0; have e : st.row 0 = st.r0 := rfl; rw [e] at this; omega
  have z1 : st.r1.length ≤ 1000000 := by have := size_row st 1; have e : st.row 1 = st.r1 := rfl; rw [e] at this; omega
  have v0 : oIx V (.int 0) s = .ok x0 s := by rw [lis_ix h2]; rfl
  have v1 : oIx V (.int 1) s = .ok x1 s := by rw [lis_ix h2]; rfl
  obtain ⟨xs, vs, hxs⟩ : ∃ xs, oIx V (.int side) s = .ok xs s ∧ Lis s xs ((p :: l).map tp) := by
    rcases hs with rfl | rfl
    · have e : st.r0 = p :: l := he
      exact ⟨x0, v0, by rw [← e]; exact h3⟩
    · have e : st.r1 = p :: l := he
      exact ⟨x1, v1, by rw [← e]; exact h4⟩
  have a0 : atI ((p :: l).map tp) 0 = some (tp p) := (DL.atI_nat _ 0).trans rfl
  have ix0 : oIx xs (.int 0) s = .ok (.tup [p.1, p.2]) s := by rw [lis_ix hxs, a0]; rfl
  have l0 : oList false [x0] s = .ok (.lst (st.r0.map tp)) s := by rw [lis_list h3]; exact mkL_f _ (by rw [List.length_map]; omega)
  have l1 : oList false [x1] s = .ok (.lst (st.r1.map tp)) s := by rw [lis_list h4]; exact mkL_f _ (by rw [List.length_map]; omega)
  obtain ⟨s1, hs1⟩ : ∃ s1, s.new (.lst [.lst (st.r0.map tp), .lst (st.r1.map tp)]) = s1 := ⟨_, rfl⟩
  have g1 : s1.h s.n = some (.lst [.lst (st.r0.map tp), .lst (st.r1.map tp)]) := by rw [← hs1]; exact new_same
  obtain ⟨nst, hn⟩ : ∃ nst, (st.putMem p).setRow side l = nst := ⟨_, rfl⟩
  have rowl : oIx (.ref s.n) (.int side) s1 = .ok (.lst ((p :: l).map tp)) s1 := by
    rw [o_ixR g1]
    rcases hs with rfl | rfl
    · have e : st.r0 = p :: l := he
      rw [← e]; rfl
    · have e : st.r1 = p :: l := he
      rw [← e]; rfl
  have ll : (p :: l).length ≤ 1000000 := by rw [← he]; have := size_row st side; omega
  have cut : oSl false (.lst ((p :: l).map tp)) (some 1) none s1 = .ok (.lst (l.map tp)) s1 := by
    rw [o_slL, cut_from _ _ (by omega)]
    exact mkL_f _ (by rw [List.length_cons] at ll; simp; omega)
  obtain ⟨s2, hs2⟩ : ∃ s2, s1.put s.n (.lst [.lst (nst.r0.map tp), .lst (nst.r1.map tp)]) = s2 := ⟨_, rfl⟩
  have set1 : oSet (.ref s.n) (.int side) (.lst (l.map tp)) s1 = some s2 := by
    rw [o_setR g1, ← hs2, ← hn]
    rcases hs with rfl | rfl <;> rfl
  have n1 : s1.n = s.n + 1 := by rw [← hs1]; rfl
  have n2 : s2.n = s.n + 1 := by rw [← hs2]; exact n1
  have f2 : DL.Fr nil0 s s2 := by rw [← hs2, ← hs1]; exact Fr.new.tr putN (fun m hm z => by omega)
  have bW := b2
  have h5b : Lis s2 W (cs.map st.mv) := lis_fr h5 b2 f2 (fun m _ _ z => z)
  obtain ⟨s3, hs3⟩ : ∃ s3, s2.new (.lst (cs.map st.mv)) = s3 := ⟨_, rfl⟩
  have lm : oList true [W] s2 = .ok (.ref s2.n) s3 := by
    rw [lis_list h5b, ← hs3]
    unfold mkL
    rw [if_pos (by rw [List.length_map, sizeLine_eq]; omega)]; rfl
  rw [n2] at lm
  have n3 : s3.n = s.n + 2 := by rw [← hs3]; show s2.n + 1 = _; omega
  have f3 : DL.Fr nil0 s s3 := by rw [← hs3]; exact f2.trans Fr.new
  have m3 : s3.h (s.n + 1) = some (.lst (cs.map st.mv)) := by rw [← hs3, ← n2]; exact new_same
  have r3 : s3.h s.n = some (.lst [.lst (nst.r0.map tp), .lst (nst.r1.map tp)]) := by rw [← hs3, new_ne (by omega), ← hs2]; exact put_same
  have hx3 : s3.h k = some (.lst cs) := (f3.h k hk fun z => z).trans hx
  have t3 : s3.h t = some (tellO V W) := (f3.h t h.tb.2 fun z => z).trans h1
  have nmv : ∀ c, Pl 6 c = true → nst.mv c = if c = p.1 then p.2 else st.mv c := fun c hc => by
    rw [← hn, mv_set]
    exact mv_put hp.1 hc
  obtain ⟨sd0, h0⟩ : ∃ sd0 : Sl, [some (.ref t), some (.ref k), some (.int side), some (.ref s.n), some (.ref (s.n + 1)), none, some p.1, some p.2] = sd0 := ⟨_, rfl⟩
  have lnk : oLen [.ref k] s3 = .ok (.int cs.length) s3 := by
    show (match getL s3 (.ref k) with
      | some ds => Res.ok (D.int ds.length) s3
      | none => .bad) = _
    rw [getL_ref hx3]
  -- the memory, place by place
  obtain ⟨sd', s4, e4, ⟨l', old⟩, m4, r4, n4, f4⟩ := forL_upto (all := rngD 0 cs.length) (t := tgN 5) (b := L_drained_1)
    (fun j sd z => (sd.length = 8 ∧ ∀ i, i < 8 → i ≠ 5 → slot sd i = slot sd0 i) ∧ z.h (s.n + 1) = some (.lst ((cs.take j).map nst.mv ++ (cs.drop j).map st.mv)) ∧ z.h s.n = some (.lst [.lst (nst.r0.map tp), .lst (nst.r1.map tp)]) ∧ z.n = s.n + 2 ∧ DL.Fr nil0 s z) cs.length (by
      rintro j sd z hj ⟨⟨l2, old⟩, mz, rz, nz, fz⟩
      refine ⟨_, rfl, ?_⟩
      obtain ⟨c, hcj⟩ : ∃ c, cs[j]? = some c := ⟨_, List.getElem?_eq_getElem hj⟩
      have pc := hc c (List.mem_of_getElem? hcj)
      have hxz : z.h k = some (.lst cs) := (fz.h k hk fun z => z).trans hx
      have ixc : oIx (.ref k) (.int (j : Int)) z = .ok c z := by rw [o_ixR hxz, DL.atI_nat, hcj]
      have g : ∀ i, i < 8 → i ≠ 5 → slot (sd.set 5 (some (.int (j : Int)))) i = slot [some (.ref t), some (.ref k), some (.int side), some (.ref s.n), some (.ref (s.n + 1)), none, some p.1, some p.2] i := fun i hi ne => by rw [slot_set, if_neg (by omega), old i hi ne, h0]
      have g1 : slot (sd.set 5 (some (.int (j : Int)))) 1 = some (.ref k) := g 1 (by omega) (by omega)
      have g4 : slot (sd.set 5 (some (.int (j : Int)))) 4 = some (.ref (s.n + 1)) := g 4 (by omega) (by omega)
      have g6 : slot (sd.set 5 (some (.int (j : Int)))) 6 = some p.1 := g 6 (by omega) (by omega)
      have g7 : slot (sd.set 5 (some (.int (j : Int)))) 7 = some p.2 := g 7 (by omega) (by omega)
      have g5 : slot (sd.set 5 (some (.int (j : Int)))) 5 = some (.int (j : Int)) := by simp [l2]
      have gl : (sd.set 5 (some (.int (j : Int)))).length = 8 := by simpa using l2
      have gk : ∀ i, i < 8 → i ≠ 5 → slot (sd.set 5 (some (.int (j : Int)))) i = slot sd0 i := fun i hi ne => by rw [g i hi ne, h0]
      have pp := sm.row side p (by rw [he]; simp)
      have eq := o_eqPl (s := z) false (Pl38 pc) (Pl38 pp.1)
      have dr : cs.drop j = c :: cs.drop (j + 1) := by
        obtain ⟨a, b⟩ := List.getElem?_eq_some_iff.mp hcj
        rw [List.drop_eq_getElem_cons a, b]
      have tk : cs.take (j + 1) = cs.take j ++ [c] := by rw [List.take_add_one, hcj]; rfl
      have lt : ((cs.take j).map nst.mv).length = j := by rw [List.length_map, List.length_take]; omega
      generalize sd.set 5 (some (.int (j : Int))) = sdj at *
      by_cases q : c = p.1
      · rw [decide_eq_true q] at eq
        have st1 : oSet (.ref (s.n + 1)) (.int (j : Int)) p.2 z = some (z.put (s.n + 1) (.lst ((cs.take (j + 1)).map nst.mv ++ (cs.drop (j + 1)).map st.mv))) := by
          rw [o_setR mz]
          have ix : ixN ((cs.take j).map nst.mv ++ (cs.drop j).map st.mv).length (j : Int) = some j := by
            unfold ixN
            rw [if_pos (by omega), if_pos (by rw [List.length_append, lt, List.length_map, List.length_drop]; omega)]
            simp
          rw [ix]
          show some (z.put (s.n + 1) (.lst (((cs.take j).map nst.mv ++ (cs.drop j).map st.mv).set j p.2))) = _
          congr 3
          rw [dr, List.map_cons, List.set_append_right _ _ (by rw [lt]; omega), lt, Nat.sub_self, List.set_cons_zero, tk, List.map_append]
          simp only [List.map_cons, List.map_nil, List.append_assoc, List.singleton_append]
          rw [nmv c (Pl36 pc), if_pos q]
        refine Nx_of (sd := sdj) (s := z.put (s.n + 1) (.lst ((cs.take (j + 1)).map nst.mv ++ (cs.drop (j + 1)).map st.mv))) ?_ ⟨⟨gl, gk⟩, put_same, by rw [put_ne (by omega)]; exact rz, by rw [put_n]; exact nz, fz.tr putN (fun m hm z => by omega)⟩
        unfold L_drained_1
        simp (disch := walk_at "d") [g1, g4, g5, g6, g7, ixc, eq, st1]
      · rw [decide_eq_false q] at eq
        refine Nx_of (sd := sdj) (s := z) ?_ ⟨⟨gl, gk⟩, ?_, rz, nz, fz⟩
        · unfold L_drained_1
          simp (disch := walk_at "d") [g1, g4, g5, g6, g7, ixc, eq]
        · rw [mz, dr, tk, List.map_append]
          simp only [List.map_cons, List.map_nil, List.append_assoc, List.singleton_append]
          rw [nmv c (Pl36 pc), if_neg q]) sd0 s3 ⟨⟨by rw [← h0]; rfl, fun _ _ _ => rfl⟩, by simpa using m3, r3, n3, f3⟩
  rw [List.take_length, List.drop_length, List.map_nil, List.append_nil] at m4
  obtain ⟨s5, hs5⟩ : ∃ s5, s4.new (tellO (.ref s.n) (.ref (s.n + 1))) = s5 := ⟨_, rfl⟩
  have f5 : DL.Fr nil0 s s5 := by rw [← hs5]; exact f4.trans Fr.new
  have n5 : s5.n = s.n + 3 := by rw [← hs5]; show s4.n + 1 = _; omega
  have g3 : slot sd' 3 = some (.ref s.n) := by rw [old 3 (by omega) (by omega), ← h0]; rfl
  have g4 : slot sd' 4 = some (.ref (s.n + 1)) := by rw [old 4 (by omega) (by omega), ← h0]; rfl
  have t5 : s5.h (s.n + 2) = some (tellO (.ref s.n) (.ref (s.n + 1))) := by rw [← hs5, ← n4]; exact new_same
  have m5 : s5.h (s.n + 1) = some (.lst (cs.map nst.mv)) := by rw [← hs5, new_ne (by omega)]; exact m4
  have r5 : s5.h s.n = some (.lst [.lst (nst.r0.map tp), .lst (nst.r1.map tp)]) := by rw [← hs5, new_ne (by omega)]; exact r4
  rw [hn]
  refine ⟨s5, ?_, ⟨⟨.ref s.n, .ref (s.n + 1), .lst (nst.r0.map tp), .lst (nst.r1.map tp), t5, .r r5, .v, .v, .r m5, bd_r ⟨hb, by omega⟩, bd_r ⟨by omega, by omega⟩, bd_v, bd_v⟩, by omega, by omega⟩, n5, f5⟩
  have mg : ∀ V W : D, mgK [] [(.inr (Str.ofString "rows"), V), (.inr (Str.ofString "memory"), W)] = [(.inr (Str.ofString "rows"), V), (.inr (Str.ofString "memory"), W)] := fun _ _ => rfl
  have q1 : slot sd0 1 = some (.ref k) := by rw [← h0]; rfl
  have dg2 := dg_memory ((f2.h t h.tb.2 fun z => z).trans h1)
  have hv : ((cs.length : Nat) : Int).toNat = cs.length := by omega
  have hv2 : -(2 ^ 62) ≤ ((cs.length : Nat) : Int) ∧ ((cs.length : Nat) : Int) < 2 ^ 62 := by omega
  clear hxs h2 h3 h4 h5 h5b r4 r5 m4 m5 t5 old a0
  rw [o_slL] at cut
  generalize (p :: l).map tp = PL at *
  generalize l.map tp = LL at *
  unfold F_drained f_drained
  simp (disch := walk_at "d") [e1, vs, ix0, v0, v1, l0, l1, hs1, rowl, cut, set1, dg2, lm, h0, q1, lnk, hv, hv2, e4, g3, g4, mg, n4, hs5]
/-- what stands beside: the row of draws, the store, the cells -/
structure Sy (s : HS) (w r k : Nat) (st : Sto) (cs : List D) : Prop where
  R : Row s w
  S : StAt s r st
  m : Sm st
  x : s.h k = some (.lst cs)
  wn : w < s.n
  kn : k < s.n
  wr : w < r ∨ r + 4 ≤ w
  kr : k < r ∨ r + 4 ≤ k
  kw : k ≠ w
abbrev sW (w r : Nat) : Nat → Prop := fun m => m = w ∨ (r ≤ m ∧ m < r + 4)
theorem Sy.fr {W : Nat → Prop} {s s' : HS} {w r k : Nat} {st : Sto} {cs : List D} (h : Sy s w r k st cs) (f : DL.Fr W s s') (hw : ∀ m, (m = w ∨ m = k ∨ (r ≤ m ∧ m < r + 4)) → ¬ W m) : Sy s' w r k st cs :=
  ⟨h.R.fr h.wn f (hw w (.inl rfl)), h.S.fr f fun m a b => hw m (.inr (.inr ⟨a, b⟩)), h.m, (f.h k h.kn (hw k (.inr (.inl rfl)))).trans h.x, Nat.lt_of_lt_of_le h.wn f.n, Nat.lt_of_lt_of_le h.kn f.n, h.wr, h.kr, h.kw⟩
theorem Sy.row {s s' : HS} {w r k : Nat} {st : Sto} {cs : List D} (h : Sy s w r k st cs) (f : DL.Fr (at1 w) s s') (R : Row s' w) : Sy s' w r k st cs := by
  have a : ∀ {m}, at1 w m → m = w := fun z => z
  exact ⟨R, h.S.fr f fun m x y z => by have := a z; have := h.wr; omega, h.m, (f.h k h.kn (fun z => h.kw (a z))).trans h.x, Nat.lt_of_lt_of_le h.wn f.n, Nat.lt_of_lt_of_le h.kn f.n, h.wr, h.kr, h.kw⟩
theorem Sy.store {s s' : HS} {w r k : Nat} {st st' : Sto} {cs : List D} (h : Sy s w r k st cs) (f : DL.Fr (stW r) s s') (S : StAt s' r st') (m : Sm st') : Sy s' w r k st' cs := by
  have a : ∀ {m}, stW r m → r < m ∧ m < r + 4 := fun z => z
  exact ⟨h.R.fr h.wn f (fun z => by have := a z; have := h.wr; omega), S, m, (f.h k h.kn (fun z => by have := a z; have := h.kr; omega)).trans h.x, Nat.lt_of_lt_of_le h.wn f.n, Nat.lt_of_lt_of_le h.kn f.n, h.wr, h.kr, h.kw⟩
noncomputable def dueE : SE := (dispE [((c_ (.str "rows")), (lstE false (acons (bN (acons (b2 (b2 (v_ 3) (c_ (.str "rows")) oDGet) (c_ (.int 0)) oIx) anil) (oList true)) (acons (bN (acons (b2 (b2 (v_ 3) (c_ (.str "rows")) oDGet) (c_ (.int 1)) oIx) anil) (oList true)) anil)))), ((c_ (.str "memory")), (bN (acons (b2 (v_ 3) (c_ (.str "memory")) oDGet) anil) (oList false)))])
theorem mkL_t {ds : List D} (s : HS) (h : ds.length ≤ 1000000) : mkL true ds s = .ok (.ref s.n) (s.new (.lst ds)) := by
  unfold mkL
  rw [if_pos (by rw [sizeLine_eq]; omega)]; rfl
theorem due_spec {s : HS} {b t : Nat} {st : Sto} {cs : List D} (h : Tl s b t st cs) (hl : cs.length ≤ 1000) (hz : st.size < 1000000) {sd : Sl} (h3 : slot sd 3 = some (.ref t)) :
    ∃ s', dueE sd s = .ok (.ref (s.n + 2)) s' ∧ s'.h (s.n + 2) = some (tellO (.lst [.ref s.n, .ref (s.n + 1)]) (.lst (cs.map st.mv))) ∧ s'.h s.n = some (.lst (st.r0.map tp)) ∧ s'.h (s.n + 1) = some (.lst (st.r1.map tp)) ∧ s'.n = s.n + 3 ∧ DL.Fr nil0 s s' := by
  have z0 : st.r0.length ≤ 1000000 := by have := size_row st 0; have e : st.row 0 = st.r0 := rfl; rw [e] at this; omega
  have z1 : st.r1.length ≤ 1000000 := by have := size_row st 1; have e : st.row 1 = st.r1 := rfl; rw [e] at this; omega
  obtain ⟨s1, q1⟩ : ∃ s1, s.new (.lst (st.r0.map tp)) = s1 := ⟨_, rfl⟩
  obtain ⟨s2, q2⟩ : ∃ s2, s1.new (.lst (st.r1.map tp)) = s2 := ⟨_, rfl⟩
  have n1 : s1.n = s.n + 1 := by rw [← q1]; rfl
  have n2 : s2.n = s.n + 2 := by rw [← q2]; show s1.n + 1 = _; omega
  have f1 : DL.Fr nil0 s s1 := by rw [← q1]; exact Fr.new
  have f2 : DL.Fr nil0 s s2 := by rw [← q2]; exact f1.trans Fr.new
  obtain ⟨V, W, x0, x1, h1, h2, h3', h4, h5, b1, b2, b3, b4⟩ := h.ex
  have e1 := dg_rows h1
  have v0 : oIx V (.int 0) s = .ok x0 s := by rw [lis_ix h2]; rfl
  have l0 : oList true [x0] s = .ok (.ref s.n) s1 := by rw [lis_list h3', ← q1]; exact mkL_t s (by rw [List.length_map]; omega)
  have e2 := dg_rows ((f1.h t h.tb.2 fun z => z).trans h1)
  have v1 : oIx V (.int 1) s1 = .ok x1 s1 := by rw [lis_ix (lis_fr h2 b1 f1 fun _ _ _ z => z)]; rfl
  have l1 : oList true [x1] s1 = .ok (.ref (s.n + 1)) s2 := by rw [lis_list (lis_fr h4 b4 f1 fun _ _ _ z => z), ← q2, ← n1]; exact mkL_t s1 (by rw [List.length_map]; omega)
  have e3 := dg_memory ((f2.h t h.tb.2 fun z => z).trans h1)
  have l2 : oList false [W] s2 = .ok (.lst (cs.map st.mv)) s2 := by rw [lis_list (lis_fr h5 b2 f2 fun _ _ _ z => z)]; exact mkL_f _ (by rw [List.length_map]; omega)
  have mg : ∀ V W : D, mgK [] [(.inr (Str.ofString "rows"), V), (.inr (Str.ofString "memory"), W)] = [(.inr (Str.ofString "rows"), V), (.inr (Str.ofString "memory"), W)] := fun _ _ => rfl
  refine ⟨s2.new (tellO (.lst [.ref s.n, .ref (s.n + 1)]) (.lst (cs.map st.mv))), ?_, by rw [← n2]; exact new_same, ?_, ?_, by show s2.n + 1 = _; omega, f2.trans Fr.new⟩
  · generalize cs.map st.mv = MM at *
    unfold dueE
    simp (disch := walk_at "d") [h3, e1, v0, l0, e2, v1, l1, e3, l2, mg, n2]
  · rw [new_ne (by omega), ← q2, new_ne (by omega), ← q1]; exact new_same
  · rw [new_ne (by omega), ← q2, ← n1]; exact new_same
theorem due_tl {s s' : HS} {st : Sto} {cs : List D} (h1 : s'.h (s.n + 2) = some (tellO (.lst [.ref s.n, .ref (s.n + 1)]) (.lst (cs.map st.mv)))) (h2 : s'.h s.n = some (.lst (st.r0.map tp))) (h3 : s'.h (s.n + 1) = some (.lst (st.r1.map tp))) (n : s.n + 3 ≤ s'.n) : Tl s' s.n (s.n + 2) st cs :=
  ⟨⟨_, _, _, _, h1, .v, .r h2, .r h3, .v, bd_v, bd_v, bd_r ⟨by omega, by omega⟩, bd_r ⟨by omega, by omega⟩⟩, by omega, by omega⟩
/-- is the row empty -/
theorem row_nil (neg : Bool) {s : HS} {b t : Nat} {st : Sto} {cs : List D} (h : Tl s b t st cs) (sm : Sm st) {side : Int} (hs : Side side) : ∃ V x, oDGet (.ref t) (.str (Str.ofString "rows")) s = .ok V s ∧ oIx V (.int side) s = .ok x s ∧ Lis s x ((st.row side).map tp) ∧ oEq neg x (.lst []) s = .ok (.bl ((st.row side).isEmpty != neg)) s := by
  obtain ⟨V, W, x0, x1, h1, h2, h3, h4, h5, b1, b2, b3, b4⟩ := h.ex
  have key : ∀ x, Lis s x ((st.row side).map tp) → oEq neg x (.lst []) s = .ok (.bl ((st.row side).isEmpty != neg)) s := fun x hx => eq_rows_nil neg hx (fun p hp => ⟨Pl36 (sm.row side p hp).1, Pl36 (sm.row side p hp).2⟩)
  rcases hs with rfl | rfl
  · exact ⟨V, x0, dg_rows h1, by rw [lis_ix h2]; rfl, h3, key _ h3⟩
  · exact ⟨V, x1, dg_rows h1, by rw [lis_ix h2]; rfl, h4, key _ h4⟩
def NxE (r : SR) (Q : Sl → HS → Prop) : Prop := ∃ sd s, r = .nx sd s ∧ Q sd s
theorem nxe_of {r : SR} {sd : Sl} {s : HS} {Q : Sl → HS → Prop} (e : r = .nx sd s) (q : Q sd s) : NxE r Q := ⟨sd, s, e, q⟩
noncomputable def stA : SS := (seq (setS 7 (b2 (v_ 2) (bN (acons (v_ 0) (acons (bN (acons (v_ 2) anil) oLen) anil)) (callD 2 F_take)) oIx))
  (seq (setS 8 (bN (acons (v_ 0) anil) (callD 1 F_worth)))
  (seq (exS (methE "Store" "write" (v_ 1) (acons (v_ 4) (acons (v_ 7) (acons (v_ 8) anil))) (callD 4 F_Store_write)))
  (exS (mth (b2 (b2 (v_ 6) (c_ (.str "rows")) oDGet) (v_ 4) oIx) (acons (tupE (acons (v_ 7) (acons (v_ 8) anil))) anil) oAppend)))))
noncomputable def stB : SS := (seq (exS (methE "Store" "drain" (v_ 1) (acons (v_ 4) anil) (callD 2 F_Store_drain)))
  (setS 6 (bN (acons (v_ 6) (acons (v_ 2) (acons (v_ 4) anil))) (callD 3 F_drained))))
noncomputable def stC : SS := (seq (exS (methE "Store" "fence" (v_ 1) (acons (v_ 4) anil) (callD 2 F_Store_fence)))
  (whS 100000 W_step_1 L_step_1))
theorem step_eq : f_step = (seq (setS 4 (bN (acons (v_ 0) (acons (c_ (.int 2)) anil)) (callD 2 F_take)))
  (seq (setS 5 (bN (acons (v_ 0) (acons (c_ (.int 6)) anil)) (callD 2 F_take)))
  (seq (setS 6 dueE)
  (seq (ifS (orT (tb (b2 (v_ 5) (c_ (.int 3)) oLt)) (tb (b2 (b2 (b2 (v_ 6) (c_ (.str "rows")) oDGet) (v_ 4) oIx) (lstE false anil) (oEq false)))) stA (ifS (tb (b2 (v_ 5) (c_ (.int 5)) oLt)) stB stC))
  (retS (v_ 6)))))) := rfl
theorem lenk {s : HS} {k : Nat} {cs : List D} (h : s.h k = some (.lst cs)) : oLen [.ref k] s = .ok (.int cs.length) s := by
  show (match getL s (.ref k) with
    | some ds => Res.ok (D.int ds.length) s
    | none => .bad) = _
  rw [getL_ref h]
/-- what a step leaves -/
structure Dn (s s' : HS) (w r k b : Nat) (st : Sto) (cs : List D) (sd' : Sl) : Prop where
  ex : ∃ d st', slot sd' 6 = some (.ref d) ∧ Tl s' b d st' cs ∧ Sy s' w r k st' cs ∧ st'.size ≤ st.size + 1
  f : DL.Fr (fun m => sW w r m ∨ b ≤ m) s s'
theorem stA_spec {s : HS} {w r k b : Nat} {st : Sto} {cs : List D} (y : Sy s w r k st cs) (hc : ∀ c ∈ cs, Pl 3 c = true) (hl : cs.length ≤ 1000) (ne : cs ≠ []) (hz : st.size < 90000) {side : Int} (hs : Side side)
    (h1 : s.h (b + 2) = some (tellO (.lst [.ref b, .ref (b + 1)]) (.lst (cs.map st.mv)))) (h2 : s.h b = some (.lst (st.r0.map tp))) (h3 : s.h (b + 1) = some (.lst (st.r1.map tp))) (bn : b + 3 ≤ s.n) (bw : w < b ∧ k < b ∧ r + 4 ≤ b)
    {sd : Sl} (l : sd.length = 9) (g0 : slot sd 0 = some (.ref w)) (g1 : slot sd 1 = some (.ref r)) (g2 : slot sd 2 = some (.ref k)) (g4 : slot sd 4 = some (.int side)) (g6 : slot sd 6 = some (.ref (b + 2))) :
    NxE (stA sd s) fun sd' s' => Dn s s' w r k b st cs sd' := by
  have at1w : ∀ {m}, at1 w m → m = w := fun z => z
  have stw : ∀ {m}, stW r m → r < m ∧ m < r + 4 := fun z => z
  have pos : (0 : Int) < (cs.length : Nat) := by
    cases cs with
    | nil => exact absurd rfl ne
    | cons _ _ => rw [List.length_cons]; omega
  have ln := lenk y.x
  obtain ⟨v, s1, e1, v0, v1, R1, f1, n1⟩ := take_fr y.R (m := (cs.length : Nat)) ⟨pos, by omega⟩
  have y1 := y.row f1 R1
  obtain ⟨j, rfl⟩ : ∃ j : Nat, v = j := ⟨v.toNat, by omega⟩
  obtain ⟨c, hcj⟩ : ∃ c, cs[j]? = some c := ⟨_, List.getElem?_eq_getElem (by omega)⟩
  have pc := hc c (List.mem_of_getElem? hcj)
  have ixc : oIx (.ref k) (.int (j : Int)) s1 = .ok c s1 := by rw [o_ixR y1.x, DL.atI_nat, hcj]
  obtain ⟨wo, s2, e2, pw, R2, f2⟩ := worth_spec3 R1 y1.wn
  have y2 := y1.row f2 R2
  obtain ⟨s3, e3, S3, f3, n3⟩ := write_spec y2.S hs (Pl36 pc) (Pl36 pw) (by omega)
  have y3 := y2.store f3 S3 (y2.m.write (side := side) pc pw)
  have f03 : DL.Fr (sW w r) s s3 := ((f1.mono fun m _ z => .inl (at1w z)).trans (f2.mono fun m _ z => .inl (at1w z))).trans (f3.mono fun m _ z => .inr (by have := stw z; omega))
  have away : ∀ m, b ≤ m → ¬ sW w r m := fun m hm z => by rcases z with z | z <;> omega
  have k1 := (f03.h (b + 2) (by omega) (away _ (by omega))).trans h1
  have k2 := (f03.h b (by omega) (away _ (by omega))).trans h2
  have k3 := (f03.h (b + 1) (by omega) (away _ (by omega))).trans h3
  have e4 := dg_rows k1
  have mv : ∀ x, (st.write side c wo).mv x = st.mv x := fun x => mv_set _ _ _ _
  have mve : cs.map (st.write side c wo).mv = cs.map st.mv := List.map_congr_left fun x _ => mv x
  have n03 := f03.n
  have zz := size_row st side
  have tup : ∀ s, mkT [c, wo] s = .ok (.tup [c, wo]) s := fun s => by
    unfold mkT
    rw [if_pos (by simp [sizeLine_eq])]
  have fin : ∀ o : Nat, (o = b ∨ o = b + 1) → oIx (.lst [.ref b, .ref (b + 1)]) (.int side) s3 = .ok (.ref o) s3 → s3.h o = some (.lst ((st.row side).map tp)) → Tl (s3.put o (.lst ((st.row side).map tp ++ [tp (c, wo)]))) b (b + 2) (st.write side c wo) cs → NxE (stA sd s) fun sd' s' => Dn s s' w r k b st cs sd' := by
    intro o ho ix ob tl
    have ap := o_app ob (.tup [c, wo]) (by rw [List.length_map]; omega)
    have fo : DL.Fr (fun m => m = o) s3 (s3.put o (.lst ((st.row side).map tp ++ [tp (c, wo)]))) := putN
    refine nxe_of (sd := (sd.set 7 (some c)).set 8 (some wo)) (s := s3.put o (.lst ((st.row side).map tp ++ [tp (c, wo)]))) ?_ ⟨⟨b + 2, st.write side c wo, by rw [slot_set, if_neg (by omega), slot_set, if_neg (by omega)]; exact g6, tl, y3.fr fo (fun m hm z => by omega), by rw [size_write]; exact Nat.le_refl _⟩, (f03.mono fun m _ z => .inl z).trans (fo.mono fun m _ z => .inr (by omega))⟩
    have gl := getL_ref ob
    have et : tp (c, wo) = .tup [c, wo] := rfl
    rw [et]
    generalize (st.row side).map tp = RR at *
    generalize (cs.length : Nat) = NN at *
    unfold stA
    simp (disch := walk_at "d") [g0, g1, g2, g4, g6, l, ln, e1, ixc, e2, me_write y2.S, e3, e4, ix, gl, tup, ap]
  rcases hs with rfl | rfl
  · refine fin b (.inl rfl) (by rw [o_ixL]; rfl) k2 ?_
    exact ⟨⟨_, _, .ref b, .ref (b + 1), by rw [put_ne (by omega)]; exact k1, .v, .r (by
      rw [put_same]
      have : (st.write 0 c wo).r0 = st.r0 ++ [(c, wo)] := rfl
      rw [this, List.map_append]; rfl), .r (by rw [put_ne (by omega)]; exact k3), by rw [mve]; exact .v, bd_v, bd_v, bd_r ⟨by omega, by rw [put_n]; omega⟩, bd_r ⟨by omega, by rw [put_n]; omega⟩⟩, by omega, by rw [put_n]; omega⟩
  · refine fin (b + 1) (.inr rfl) (by rw [o_ixL]; rfl) k3 ?_
    exact ⟨⟨_, _, .ref b, .ref (b + 1), by rw [put_ne (by omega)]; exact k1, .v, .r (by rw [put_ne (by omega)]; exact k2), .r (by
      rw [put_same]
      have : (st.write 1 c wo).r1 = st.r1 ++ [(c, wo)] := rfl
      rw [this, List.map_append]; rfl), by rw [mve]; exact .v, bd_v, bd_v, bd_r ⟨by omega, by rw [put_n]; omega⟩, bd_r ⟨by omega, by rw [put_n]; omega⟩⟩, by omega, by rw [put_n]; omega⟩
theorem stB_spec {s : HS} {w r k b d : Nat} {st : Sto} {cs : List D} (y : Sy s w r k st cs) (hc : ∀ c ∈ cs, Pl 3 c = true) (hl : cs.length ≤ 1000) (hz : st.size < 90000) {side : Int} (hs : Side side) (tl : Tl s b d st cs) (bn : b ≤ s.n) (bw : w < b ∧ k < b ∧ r + 4 ≤ b) {p : D × D} {l : List (D × D)} (he : st.row side = p :: l)
    {sd : Sl} (ls : sd.length = 9) (g1 : slot sd 1 = some (.ref r)) (g2 : slot sd 2 = some (.ref k)) (g4 : slot sd 4 = some (.int side)) (g6 : slot sd 6 = some (.ref d)) :
    NxE (stB sd s) fun sd' s' => Dn s s' w r k b st cs sd' := by
  have stw : ∀ {m}, stW r m → r < m ∧ m < r + 4 := fun z => z
  obtain ⟨s1, e1, S1, f1, n1⟩ := drain_spec y.S hs he (by omega)
  have y1 := y.store f1 S1 (y.m.drain he)
  have tl1 := tl.fr f1 (fun m a _ z => by have := stw z; omega)
  obtain ⟨s2, e2, tl2, n2, f2⟩ := drained_spec tl1 (by omega) y.S.ok y.m y1.x y1.kn hc hl (by omega) hs he
  refine nxe_of (sd := sd.set 6 (some (.ref (s1.n + 2)))) (s := s2) ?_ ⟨⟨s1.n + 2, _, by simp [ls], tl2, y1.fr f2 (fun _ _ z => z), Nat.le_trans (size_drain he) (Nat.le_succ _)⟩, (f1.mono fun m _ z => .inl (.inr (by have := stw z; omega))).trans (f2.mono fun m _ z => z.elim)⟩
  unfold stB
  simp (disch := walk_at "d") [g1, g2, g4, g6, ls, me_drain y.S, e1, e2]
theorem ok_drain {st : Sto} (ok : OkSt st) {side : Int} {p : D × D} {l : List (D × D)} (e : st.row side = p :: l) : OkSt ((st.putMem p).setRow side l) := by
  have h := ok.row side
  rw [e] at h
  exact (ok.putMem (h p List.mem_cons_self)).setRow h.tail
theorem stC_spec {s : HS} {w r k b d : Nat} {st : Sto} {cs : List D} (y : Sy s w r k st cs) (hc : ∀ c ∈ cs, Pl 3 c = true) (hl : cs.length ≤ 1000) (hz : st.size < 90000) {side : Int} (hs : Side side) (tl : Tl s b d st cs) (bn : b ≤ s.n) (bw : w < b ∧ k < b ∧ r + 4 ≤ b)
    {sd : Sl} (ls : sd.length = 9) (g1 : slot sd 1 = some (.ref r)) (g2 : slot sd 2 = some (.ref k)) (g4 : slot sd 4 = some (.int side)) (g6 : slot sd 6 = some (.ref d)) :
    NxE (stC sd s) fun sd' s' => Dn s s' w r k b st cs sd' := by
  have stw : ∀ {m}, stW r m → r < m ∧ m < r + 4 := fun z => z
  obtain ⟨s1, e1, S1, f1, n1⟩ := fence_spec y.S hs hz
  have y1 := y.store f1 S1 (y.m.fence side)
  have tl1 := tl.fr f1 (fun m a _ z => by have := stw z; omega)
  have f01 : DL.Fr (fun m => sW w r m ∨ b ≤ m) s s1 := f1.mono fun m _ z => .inl (.inr (by have := stw z; omega))
  obtain ⟨sd', s', e2, ⟨l', d', st', g6', tl', y', ok', sm', z', he', ff'⟩⟩ := whS_nx (c := W_step_1) (b := L_step_1)
    (fun m sd2 z => (sd2.length = 9 ∧ slot sd2 2 = some (.ref k) ∧ slot sd2 4 = some (.int side)) ∧ ∃ d1 st1, slot sd2 6 = some (.ref d1) ∧ Tl z b d1 st1 cs ∧ OkSt st1 ∧ Sm st1 ∧ st1.size ≤ st.size ∧ (st1.row side).length = m ∧ st1.fence side = st.fence side ∧ Sy z w r k (st.fence side) cs ∧ DL.Fr (fun m => sW w r m ∨ b ≤ m) s z)
    (fun sd2 z => sd2.length = 9 ∧ ∃ d1 st1, slot sd2 6 = some (.ref d1) ∧ Tl z b d1 st1 cs ∧ Sy z w r k (st.fence side) cs ∧ OkSt st1 ∧ Sm st1 ∧ st1.size ≤ st.size ∧ st1 = st.fence side ∧ DL.Fr (fun m => sW w r m ∨ b ≤ m) s z) (by
      rintro m sd2 z ⟨⟨l2, h2, h4⟩, d1, st1, h6, t1, ok1, sm1, z1, len1, fe, yz, fz⟩
      obtain ⟨V, x, i1, i2, i3, i4⟩ := row_nil true t1 sm1 hs
      cases hr : st1.row side with
      | nil =>
        left
        refine ⟨z, ?_, l2, d1, st1, h6, t1, yz, ok1, sm1, z1, by rw [← fe, fence_nil hr], fz⟩
        rw [hr] at i4
        unfold W_step_1
        simp (disch := walk_at "d") [h4, h6, i1, i2, i4]
      | cons p l =>
        right
        rw [hr] at i4
        refine ⟨z, ?_, ?_⟩
        · unfold W_step_1
          simp (disch := walk_at "d") [h4, h6, i1, i2, i4]
        · have zn := fz.n
          obtain ⟨s2, e2, tl2, n2, f2⟩ := drained_spec t1 (by omega) ok1 sm1 yz.x yz.kn hc hl (by omega) hs hr
          refine Nx_of (sd := sd2.set 6 (some (.ref (z.n + 2)))) (s := s2) ?_ ⟨l.length, by rw [hr] at len1; simp at len1; omega, ⟨by simpa using l2, by rw [slot_set, if_neg (by omega)]; exact h2, by rw [slot_set, if_neg (by omega)]; exact h4⟩, z.n + 2, _, by simp [l2], tl2, ok_drain ok1 hr, sm1.drain hr, Nat.le_trans (size_drain hr) z1, by rw [row_set], by rw [← fe, fence_cons hr], yz.fr f2 (fun _ _ z => z), fz.trans (f2.mono fun m _ z => z.elim)⟩
          unfold L_step_1
          simp (disch := walk_at "d") [h2, h4, h6, l2, e2]) 100000 (st.row side).length sd s1 (by have := size_row st side; omega) ⟨⟨ls, g2, g4⟩, d, st, g6, tl1, y.S.ok, y.m, Nat.le_refl _, rfl, rfl, y1, f01⟩
  obtain ⟨rfl, ff'⟩ : st' = st.fence side ∧ _ := ⟨he', ff'⟩
  refine nxe_of (sd := sd') (s := s') ?_ ⟨⟨d', _, g6', tl', y', Nat.le_trans z' (Nat.le_succ _)⟩, ff'⟩
  unfold stC
  simp (disch := walk_at "d") [g1, g4, me_fence y.S, e1, e2]
/-- one step -/
theorem step_spec {s : HS} {w r k t m : Nat} {st : Sto} {cs : List D} (y : Sy s w r k st cs) (hc : ∀ c ∈ cs, Pl 3 c = true) (hl : cs.length ≤ 1000) (ne : cs ≠ []) (hz : st.size < 90000) (ht : s.h t = some (tellO (rowsD st) (.ref m))) (hm : s.h m = some (.lst (cs.map st.mv))) (tn : t < s.n ∧ m < s.n) (tw : t ≠ w ∧ m ≠ w) (rn : r + 4 ≤ s.n) :
    ∃ d st' s', F_step [.ref w, .ref r, .ref k, .ref t] s = .ok (.ref d) s' ∧ Tl s' s.n d st' cs ∧ Sy s' w r k st' cs ∧ st'.size ≤ st.size + 1 ∧ DL.Fr (sW w r) s s' := by
  have at1w : ∀ {m}, at1 w m → m = w := fun z => z
  obtain ⟨side, s1, e1, v0, v1, R1, f1, n1⟩ := take_fr y.R (m := 2) (by decide)
  have y1 := y.row f1 R1
  have hs : Side side := by unfold Side; omega
  obtain ⟨kd, s2, e2, k0, k1, R2, f2, n2⟩ := take_fr R1 (m := 6) (by decide)
  have y2 := y1.row f2 R2
  have f12 := f1.trans f2
  have tl2 : Tl s2 0 t st cs := ⟨⟨_, _, _, _, (f12.h t tn.1 (fun z => tw.1 (at1w z))).trans ht, .v, .v, .v, .r ((f12.h m tn.2 (fun z => tw.2 (at1w z))).trans hm), bd_v, bd_r ⟨Nat.zero_le _, by omega⟩, bd_v, bd_v⟩, Nat.zero_le _, by omega⟩
  obtain ⟨sd3, h3⟩ : ∃ sd3 : Sl, [some (.ref w), some (.ref r), some (.ref k), some (.ref t), some (.int side), some (.int kd), none, none, none] = sd3 := ⟨_, rfl⟩
  obtain ⟨s3, e3, q1, q2, q3, n3, f3⟩ := due_spec tl2 hl (by omega) (sd := sd3) (by rw [← h3]; rfl)
  have nb : s2.n = s.n := by omega
  rw [nb] at e3 q1 q2 q3 n3
  have tl3 : Tl s3 s.n (s.n + 2) st cs := due_tl q1 q2 q3 (by omega)
  have y3 := y2.fr f3 (fun _ _ z => z)
  have bw : w < s.n ∧ k < s.n ∧ r + 4 ≤ s.n := ⟨y.wn, y.kn, rn⟩
  obtain ⟨sd4, h4⟩ : ∃ sd4, sd3.set 6 (some (.ref (s.n + 2))) = sd4 := ⟨_, rfl⟩
  have l3 : sd3.length = 9 := by rw [← h3]; rfl
  have l4 : sd4.length = 9 := by rw [← h4]; simpa using l3
  have o : ∀ i, i < 6 → slot sd4 i = slot [some (.ref w), some (.ref r), some (.ref k), some (.ref t), some (.int side), some (.int kd), none, none, none] i := fun i hi => by rw [← h4, slot_set, if_neg (by omega), ← h3]
  have g0 : slot sd4 0 = some (.ref w) := o 0 (by omega)
  have g1 : slot sd4 1 = some (.ref r) := o 1 (by omega)
  have g2 : slot sd4 2 = some (.ref k) := o 2 (by omega)
  have g4 : slot sd4 4 = some (.int side) := o 4 (by omega)
  have g5 : slot sd4 5 = some (.int kd) := o 5 (by omega)
  have g6 : slot sd4 6 = some (.ref (s.n + 2)) := by rw [← h4]; simp [l3]
  obtain ⟨V, x, i1, i2, i3, i4⟩ := row_nil false tl3 y.m hs
  have f03 : DL.Fr (sW w r) s s3 := ((f1.mono fun m _ z => .inl (at1w z)).trans (f2.mono fun m _ z => .inl (at1w z))).trans (f3.mono fun m _ z => z.elim)
  obtain ⟨IFS, hIF⟩ : ∃ IFS, (ifS (orT (tb (b2 (v_ 5) (c_ (.int 3)) oLt)) (tb (b2 (b2 (b2 (v_ 6) (c_ (.str "rows")) oDGet) (v_ 4) oIx) (lstE false anil) (oEq false)))) stA (ifS (tb (b2 (v_ 5) (c_ (.int 5)) oLt)) stB stC)) = IFS := ⟨_, rfl⟩
  have run : NxE (IFS sd4 s3) fun sd5 s5 => Dn s3 s5 w r k s.n st cs sd5 := by
    rw [← hIF]
    have A := stA_spec y3 hc hl ne hz hs q1 q2 q3 (by omega) bw l4 g0 g1 g2 g4 g6
    by_cases q : kd < 3
    · obtain ⟨sd5, s5, e, h⟩ := A
      refine nxe_of (sd := sd5) (s := s5) ?_ h
      generalize stA = SA at *
      simp (disch := walk_at "d") [g5, q, e]
    · cases hr : st.row side with
      | nil =>
        obtain ⟨sd5, s5, e, h⟩ := A
        refine nxe_of (sd := sd5) (s := s5) ?_ h
        rw [hr] at i4
        generalize stA = SA at *
        simp (disch := walk_at "d") [g4, g5, g6, q, i1, i2, i4, e]
      | cons p l =>
        rw [hr] at i4
        by_cases q5 : kd < 5
        · obtain ⟨sd5, s5, e, h⟩ := (stB_spec y3 hc hl hz hs tl3 (by omega) bw hr l4 g1 g2 g4 g6)
          refine nxe_of (sd := sd5) (s := s5) ?_ h
          generalize stB = SB at *
          simp (disch := walk_at "d") [g4, g5, g6, q, q5, i1, i2, i4, e]
        · obtain ⟨sd5, s5, e, h⟩ := (stC_spec y3 hc hl hz hs tl3 (by omega) bw l4 g1 g2 g4 g6)
          refine nxe_of (sd := sd5) (s := s5) ?_ h
          generalize stC = SC at *
          simp (disch := walk_at "d") [g4, g5, g6, q, q5, i1, i2, i4, e]
  obtain ⟨sd5, s5, e5, ⟨d, st', g6', tl', y', zz⟩, f5⟩ := run
  refine ⟨d, st', s5, ?_, tl', y', zz, f03.tr f5 (fun m hm z => by
    rcases z with z | z
    · exact z
    · omega)⟩
  unfold F_step
  rw [step_eq, hIF]
  generalize dueE = DU at *
  simp (disch := walk_at "d") [e1, e2, h3, e3, l3, h4, e5, g6']
/-! ### the two tells are alike -/
theorem toP_lisK {s : HS} {x : D} {ds : List D} {n : Nat} (h : Lis s x ds) (hp : ∀ d ∈ ds, Pl n d = true) : toP (n + 1) s x = some (.list (pds ds)) := by
  rcases h with rfl | ⟨k, rfl, e⟩
  · exact toP_lstPl hp
  · exact toP_refPl e hp
theorem toP_two {s : HS} {V x0 x1 : D} {p q : PyData} (h : Lis s V [x0, x1]) (h0 : toP 7 s x0 = some p) (h1 : toP 7 s x1 = some q) : toP 8 s V = some (.list [p, q]) := by
  have e : allP (toP 7 s) [x0, x1] = some [p, q] := by
    unfold allP allP allP
    rw [h0, h1]; rfl
  rcases h with rfl | ⟨k, rfl, e2⟩
  · rw [toP_lst, e]; rfl
  · rw [toP_ref 7 k e2, e]; rfl
theorem tl_data {s : HS} {b t : Nat} {st : Sto} {cs : List D} (h : Tl s b t st cs) (sm : Sm st) : ∃ V W, s.h t = some (tellO V W) ∧ toP 8 s V = some (.list [.list (pds (st.r0.map tp)), .list (pds (st.r1.map tp))]) ∧ toP 8 s W = some (.list (pds (cs.map st.mv))) := by
  obtain ⟨V, W, x0, x1, h1, h2, h3, h4, h5, _⟩ := h.ex
  refine ⟨V, W, h1, toP_two h2 (toP_lisK (n := 6) h3 fun d hd => Pl_le (sm.p0.tps d hd) (by omega)) (toP_lisK (n := 6) h4 fun d hd => Pl_le (sm.p1.tps d hd) (by omega)), toP_lisK (n := 7) h5 fun d hd => ?_⟩
  obtain ⟨c, _, rfl⟩ := List.mem_map.mp hd
  exact Pl_le (sm.mv c) (by omega)
theorem tells_eq {s : HS} {b b' t t' : Nat} {st : Sto} {cs : List D} (h : Tl s b t st cs) (h' : Tl s b' t' st cs) (sm : Sm st) (neg : Bool) : oDEq neg (.ref t) (.ref t') s = .ok (.bl (!neg)) s := by
  obtain ⟨V, W, e1, a1, a2⟩ := tl_data h sm
  obtain ⟨V', W', e2, c1, c2⟩ := tl_data h' sm
  unfold oDEq
  simp only [e1, e2]
  rw [if_pos]
  refine ⟨rfl, fun p hp => ?_⟩
  simp only [List.mem_cons, List.not_mem_nil, or_false] at hp
  rcases hp with rfl | rfl
  · exact ⟨V', _, _, rfl, a1, c1, SeqAt.eqv_refl _ (toP_lay s 8 V _ a1)⟩
  · exact ⟨W', _, _, rfl, a2, c2, SeqAt.eqv_refl _ (toP_lay s 8 W _ a2)⟩
/-! ### the law -/
theorem cells_step {s : HS} {w k j : Nat} {ds : List D} (R : Row s w) (wn : w < s.n) (hk : s.h k = some (.lst ds)) (kn : k < s.n) (kw : k ≠ w) (pl : ∀ d ∈ ds, Pl 3 d = true) (len : ds.length ≤ j) (hj : j ≤ 100) (ne : 1 ≤ j → ds ≠ []) {sd : Sl} (l : sd.length = 9) (g1 : slot sd 1 = some (.ref w)) (g2 : slot sd 2 = some (.ref k)) :
    (L_law_1 sd s).Nx fun sd' s' => (sd'.length = 9 ∧ ∀ i, i < 3 → slot sd' i = slot sd i) ∧ Row s' w ∧ (∃ ds', s'.h k = some (.lst ds') ∧ (∀ d ∈ ds', Pl 3 d = true) ∧ ds'.length ≤ j + 1 ∧ ds' ≠ []) ∧ DL.Fr (fun m => m = w ∨ m = k) s s' := by
  classical
  have at1w : ∀ {m}, at1 w m → m = w := fun z => z
  obtain ⟨c, s1, e1, pc, R1, f1⟩ := cell_spec3 R wn
  have hk1 : s1.h k = some (.lst ds) := (f1.h k kn (fun z => kw (at1w z))).trans hk
  have ii := o_inPl true (s := s1) (x := c) (y := .ref k) (ds := ds) (Pl_le pc (by omega)) (toP_refPl (n := 7) hk1 fun d hd => Pl_le (pl d hd) (by omega)) (fun es z => nomatch z) (fun d hd => Pl_le (pl d hd) (by omega))
  have old : ∀ i, i < 3 → slot (sd.set 6 (some c)) i = slot sd i := fun i hi => by rw [slot_set, if_neg (by omega)]
  by_cases q : c ∈ ds
  · rw [decide_eq_true q] at ii
    refine Nx_of (sd := sd.set 6 (some c)) (s := s1) ?_ ⟨⟨by simpa using l, old⟩, R1, ⟨ds, hk1, pl, by omega, fun z => by rw [z] at q; cases q⟩, f1.mono fun m _ z => .inl (at1w z)⟩
    unfold L_law_1
    simp (disch := walk_at "d") [g1, g2, e1, l, ii]
  · rw [decide_eq_false q] at ii
    have ap := o_app hk1 c (by omega)
    refine Nx_of (sd := sd.set 6 (some c)) (s := s1.put k (.lst (ds ++ [c]))) ?_ ⟨⟨by simpa using l, old⟩, R1.fr (by have := f1.n; omega) (putN (n := k)) (fun z => kw z.symm), ⟨ds ++ [c], put_same, fun d hd => ?_, by simp; omega, by simp⟩, (f1.mono fun m _ z => .inl (at1w z)).trans (putN.mono fun m _ z => .inr z)⟩
    · unfold L_law_1
      simp (disch := walk_at "d") [g1, g2, e1, l, ii, getL_ref hk1, ap]
    · rcases List.mem_append.mp hd with z | z
      · exact pl d z
      · rw [List.mem_singleton.mp z]; exact pc
structure Lw (s : HS) (r k : Nat) (cs : List D) (j : Nat) (w : Nat) (sd : Sl) : Prop where
  ex : ∃ st t m, StAt s r st ∧ Sm st ∧ s.h t = some (tellO (rowsD st) (.ref m)) ∧ s.h m = some (.lst (cs.map st.mv)) ∧ t < s.n ∧ m < s.n ∧ t ≠ w ∧ m ≠ w ∧ st.size ≤ j ∧ slot sd 5 = some (.ref t)
  x : s.h k = some (.lst cs)
  kn : k < s.n
  kr : k < r
  rn : r + 4 ≤ s.n
  l : sd.length = 9
  g2 : slot sd 2 = some (.ref k)
  g4 : slot sd 4 = some (.ref r)
theorem Lw.set {s : HS} {r k : Nat} {cs : List D} {j w : Nat} {sd : Sl} (h : Lw s r k cs j w sd) {i : Nat} (hi : i = 3 ∨ 6 ≤ i) (v : Option D) : Lw s r k cs j w (sd.set i v) := by
  obtain ⟨st, t, m, a⟩ := h.ex
  exact ⟨⟨st, t, m, a.1, a.2.1, a.2.2.1, a.2.2.2.1, a.2.2.2.2.1, a.2.2.2.2.2.1, a.2.2.2.2.2.2.1, a.2.2.2.2.2.2.2.1, a.2.2.2.2.2.2.2.2.1, by rw [slot_set, if_neg (by omega)]; exact a.2.2.2.2.2.2.2.2.2⟩, h.x, h.kn, h.kr, h.rn, by simpa using h.l, by rw [slot_set, if_neg (by omega)]; exact h.g2, by rw [slot_set, if_neg (by omega)]; exact h.g4⟩
theorem one_law {s : HS} {r k w j : Nat} {cs : List D} {sd : Sl} (h : Lw s r k cs j w sd) (hc : ∀ c ∈ cs, Pl 3 c = true) (hl : cs.length ≤ 1000) (ne : cs ≠ []) (hj : j ≤ 1000) (R : Row s w) (wn : w < s.n) (wr : w < r ∨ r + 4 ≤ w) (kw : k ≠ w) (g7 : slot sd 7 = some (.ref w)) :
    (L_law_2 sd s).Nx fun sd' s' => Lw s' r k cs (j + 1) w sd' ∧ Row s' w ∧ w < s'.n ∧ slot sd' 7 = some (.ref w) := by
  obtain ⟨st, t, m, S, sm, ht, hm, tn, mn, tw, mw, sz, g5⟩ := h.ex
  have y : Sy s w r k st cs := ⟨R, S, sm, h.x, wn, h.kn, wr, .inl h.kr, kw⟩
  obtain ⟨d, st1, s1, e1, tl1, y1, z1, f1⟩ := step_spec y hc hl ne (by omega) ht hm ⟨tn, mn⟩ ⟨tw, mw⟩ h.rn
  obtain ⟨s2, e2, t2, m2, n2, f2⟩ := looks_spec y1.S y1.m y1.x y1.kn hc hl (by omega)
  have y2 := y1.fr f2 (fun _ _ z => z)
  have tl2 : Tl s2 s.n d st1 cs := tl1.fr f2 (fun _ _ _ z => z)
  have tl3 : Tl s2 0 (s1.n + 1) st1 cs := ⟨⟨_, _, _, _, t2, .v, .v, .v, .r m2, bd_v, bd_r ⟨Nat.zero_le _, by omega⟩, bd_v, bd_v⟩, Nat.zero_le _, by omega⟩
  have eq := tells_eq tl3 tl2 y1.m true
  have n1 := f1.n
  have l := h.l
  have g2 := h.g2
  have g4 := h.g4
  have rn := h.rn
  refine Nx_of (sd := (sd.set 8 (some (.ref d))).set 5 (some (.ref (s1.n + 1)))) (s := s2) ?_ ⟨⟨⟨st1, s1.n + 1, s1.n, y2.S, y2.m, t2, m2, by omega, by omega, by omega, by omega, by omega, by simp [l]⟩, y2.x, y2.kn, h.kr, by omega, by simpa using l, by rw [slot_set, if_neg (by omega), slot_set, if_neg (by omega)]; exact g2, by rw [slot_set, if_neg (by omega), slot_set, if_neg (by omega)]; exact g4⟩, y2.R, y2.wn, by rw [slot_set, if_neg (by omega), slot_set, if_neg (by omega)]; exact g7⟩
  unfold L_law_2
  simp (disch := walk_at "d") [g2, g4, g5, g7, l, e1, e2, eq]
theorem row_law {s : HS} {r k w0 j : Nat} {cs : List D} {sd : Sl} (h : Lw s r k cs j w0 sd) (hc : ∀ c ∈ cs, Pl 3 c = true) (hl : cs.length ≤ 1000) (ne : cs ≠ []) (hj : j ≤ 900) {c : Int} (g6 : slot sd 6 = some (.int c)) (hw : w0 = s.n) :
    (L_law_3 sd s).Nx fun sd' s' => Lw s' r k cs (j + 3) s'.n sd' := by
  obtain ⟨s1, e1, R1, n1, f1⟩ := stream_fr c s (W := nil0)
  have at1w : ∀ {m}, at1 s.n m → m = s.n := fun z => z
  obtain ⟨st, t, m, S, sm, ht, hm, tn, mn, tw, mw, sz, g5⟩ := h.ex
  obtain ⟨v, s2, e2, v0, v1, R2, f2, n2⟩ := take_fr R1 (m := 3) (by decide)
  have l := h.l
  have rn := h.rn
  have kn := h.kn
  have fa : DL.Fr (fun m => m = s.n) s s2 := (f1.mono fun m _ z => z.elim).trans (f2.mono fun m _ z => at1w z)
  have L2 : Lw s2 r k cs j s.n (sd.set 7 (some (.ref s.n))) := by
    refine ⟨⟨st, t, m, S.fr fa (fun m a b z => by omega), sm, (fa.h t tn (by omega)).trans ht, (fa.h m mn (by omega)).trans hm, by omega, by omega, by omega, by omega, sz, by rw [slot_set, if_neg (by omega)]; exact g5⟩, (fa.h k kn (by omega)).trans h.x, by omega, h.kr, by omega, by simpa using l, by rw [slot_set, if_neg (by omega)]; exact h.g2, by rw [slot_set, if_neg (by omega)]; exact h.g4⟩
  obtain ⟨sd', s', e3, i, hi, L3, _⟩ := forL_nx0 (all := rngD 0 (1 + v).toNat) (t := tgN 3) (b := L_law_2)
    (fun rest sd z => ∃ i, i + rest.length ≤ j + 3 ∧ Lw z r k cs i s.n sd ∧ Row z s.n ∧ s.n < z.n ∧ slot sd 7 = some (.ref s.n)) (by
      rintro d rest sd z ⟨i, hi, Lz, Rz, nz, g7⟩
      rw [List.length_cons] at hi
      refine ⟨_, rfl, ?_⟩
      exact (one_law (Lz.set (i := 3) (by omega) (some d)) hc hl ne (by omega) Rz nz (.inr rn) (by omega) (by rw [slot_set, if_neg (by omega)]; exact g7)).imp fun sd2 s2 ⟨a, b, c, e⟩ => ⟨i + 1, by omega, a, b, c, e⟩)
    (rngD 0 (1 + v).toNat) _ s2 ⟨j, by rw [rngD_len]; omega, L2, R2, by omega, by simp [l]⟩
  obtain ⟨st3, t3, m3, a⟩ := L3.ex
  have hv : -(2 ^ 62) ≤ 1 + v ∧ 1 + v < 2 ^ 62 := by omega
  refine Nx_of (sd := sd') (s := s') ?_ ⟨⟨st3, t3, m3, a.1, a.2.1, a.2.2.1, a.2.2.2.1, a.2.2.2.2.1, a.2.2.2.2.2.1, by have := a.2.2.2.2.1; omega, by have := a.2.2.2.2.2.1; omega, by have := a.2.2.2.2.2.2.2.2.1; simp at hi; omega, a.2.2.2.2.2.2.2.2.2⟩, L3.x, L3.kn, L3.kr, L3.rn, L3.l, L3.g2, L3.g4⟩
  unfold L_law_3
  simp (disch := walk_at "d") [g6, e1, l, e2, hv, e3]
theorem law_true : ∀ ns : List Int, ns.length ≤ 63 → ∃ S', F_law [.scr (ns.map .int)] S0 = .ok (.bl true) S' := by
  intro ns hns
  have m0 : ∀ s, mkL false (ns.map D.int ++ [.int 0]) s = .ok (.lst (ns.map D.int ++ [.int 0])) s := fun s => mkL_f _ (by simp; omega)
  obtain ⟨c, hc0⟩ : ∃ c : Int, ∀ s, oIx (.lst (ns.map D.int ++ [.int 0])) (.int 0) s = .ok (.int c) s := by
    cases ns with
    | nil => exact ⟨0, fun s => by rw [o_ixL]; rfl⟩
    | cons a r => exact ⟨a, fun s => by
        rw [o_ixL]
        have : atI ((a :: r).map D.int ++ [.int 0]) 0 = some (.int a) := (DL.atI_nat _ 0).trans rfl
        rw [this]⟩
  obtain ⟨s1, e1, R1, n1, f1⟩ := stream_fr c S0 (W := nil0)
  obtain ⟨s2, h2⟩ : ∃ s2, s1.new (.lst []) = s2 := ⟨_, rfl⟩
  have n2 : s2.n = S0.n + 2 := by rw [← h2]; show s1.n + 1 = _; omega
  have f2 : DL.Fr nil0 s1 s2 := by rw [← h2]; exact Fr.new
  have k2 : s2.h (S0.n + 1) = some (.lst []) := by rw [← h2, ← n1]; exact new_same
  have R2 : Row s2 S0.n := R1.fr (by omega) f2 (fun z => z)
  obtain ⟨v, s3, e3, v0, v1, R3, f3, n3⟩ := take_fr R2 (m := 11) (by decide)
  have at1w : ∀ {m}, at1 S0.n m → m = S0.n := fun z => z
  have k3 : s3.h (S0.n + 1) = some (.lst []) := (f3.h _ (by omega) (fun z => by have := at1w z; omega)).trans k2
  obtain ⟨sd4, s4, e4, ⟨l4, old4⟩, R4, n4, cs, k4, pl4, len4, ne4⟩ := forL_upto (all := rngD 0 (2 + v).toNat) (t := tgN 3) (b := L_law_1)
    (fun j sd z => (sd.length = 9 ∧ ∀ i, i < 3 → slot sd i = slot [some (.scr (ns.map .int)), some (.ref S0.n), some (.ref (S0.n + 1)), none, none, none, none, none, none] i) ∧ Row z S0.n ∧ S0.n + 2 ≤ z.n ∧ ∃ ds, z.h (S0.n + 1) = some (.lst ds) ∧ (∀ d ∈ ds, Pl 3 d = true) ∧ ds.length ≤ j ∧ (1 ≤ j → ds ≠ [])) (2 + v).toNat (by
      rintro j sd z hj ⟨⟨l, old⟩, Rz, nz, ds, kz, plz, lz, nez⟩
      refine ⟨_, rfl, ?_⟩
      have g : ∀ i, i < 3 → slot (sd.set 3 (some (.int (j : Int)))) i = slot sd i := fun i hi => by rw [slot_set, if_neg (by omega)]
      refine (cells_step Rz (by omega) kz (by omega) (by omega) plz lz (by omega) nez (sd := sd.set 3 (some (.int (j : Int)))) (by simpa using l) (by rw [g 1 (by omega), old 1 (by omega)]; rfl) (by rw [g 2 (by omega), old 2 (by omega)]; rfl)).imp fun sd2 s2 ⟨⟨a, b⟩, c, ⟨ds', d1, d2, d3, d4⟩, e⟩ => ⟨⟨a, fun i hi => by rw [b i hi, g i hi, old i hi]⟩, c, by have := e.n; omega, ds', d1, d2, d3, fun _ => d4⟩)
    [some (.scr (ns.map .int)), some (.ref S0.n), some (.ref (S0.n + 1)), none, none, none, none, none, none] s3 ⟨⟨rfl, fun _ _ => rfl⟩, R3, by omega, [], k3, (fun d z => (nomatch z)), Nat.le_refl _, fun z => by omega⟩
  have ne4 := ne4 (by omega)
  have lcs : cs.length ≤ 1000 := by omega
  have g2 : slot sd4 2 = some (.ref (S0.n + 1)) := old4 2 (by omega)
  have g0 : slot sd4 0 = some (.scr (ns.map .int)) := old4 0 (by omega)
  obtain ⟨s5, e5, S5, n5, f5⟩ := make_store s4
  have k5 : s5.h (S0.n + 1) = some (.lst cs) := (f5.h _ (by omega) (fun z => z)).trans k4
  obtain ⟨s6, e6, t6, m6, n6, f6⟩ := looks_spec S5 Sm0 k5 (by omega) pl4 lcs (by simp [Sto0, Sto.size])
  have L6 : Lw s6 s4.n (S0.n + 1) cs 0 s6.n ((sd4.set 4 (some (.ref s4.n))).set 5 (some (.ref (s5.n + 1)))) := ⟨⟨Sto0, s5.n + 1, s5.n, S5.fr f6 (fun _ _ _ z => z), Sm0, t6, m6, by omega, by omega, by omega, by omega, by simp [Sto0, Sto.size], by simp [l4]⟩, (f6.h _ (by omega) (fun z => z)).trans k5, by omega, by omega, by omega, by simpa using l4, by rw [slot_set, if_neg (by omega), slot_set, if_neg (by omega)]; exact g2, by simp [l4]⟩
  have ct := cut_mid (ns.map D.int) 1 25 (by decide) (by decide)
  rw [← List.map_drop, ← List.map_take] at ct
  obtain ⟨ms, hms⟩ : ∃ ms, (ns.drop (1 : Int).toNat).take ((25 : Int).toNat - (1 : Int).toNat) = ms := ⟨_, rfl⟩
  have lms : ms.length ≤ 24 := by rw [← hms, List.length_take]; simp; omega
  rw [hms] at ct
  have os : ∀ s, oSl false (.scr (ns.map D.int)) (some 1) (some 25) s = .ok (.lst (ms.map D.int)) s := fun s => by
    rw [o_slS, ct]; exact mkL_f _ (by rw [List.length_map]; omega)
  have mq : ∀ s, mkL false (D.int 0 :: ms.map D.int) s = .ok (.lst ((0 :: ms).map D.int)) s := fun s => mkL_f _ (by simp; omega)
  obtain ⟨sd7, s7, e7, _, j, hj, L7⟩ := forL_nx0 (all := (0 :: ms).map D.int) (t := tgN 6) (b := L_law_3)
    (fun ds sd z => (∃ rs : List Int, ds = rs.map D.int) ∧ ∃ j, j + 3 * ds.length ≤ 75 ∧ Lw z s4.n (S0.n + 1) cs j z.n sd) (by
      rintro d ds sd z ⟨⟨rs, hr⟩, j, hj, Lz⟩
      cases rs with
      | nil => cases hr
      | cons q rs =>
      obtain ⟨rfl, rfl⟩ := List.cons.inj hr
      rw [List.length_cons] at hj
      refine ⟨_, rfl, ?_⟩
      have l := Lz.l
      exact (row_law (Lz.set (i := 6) (by omega) (some (.int q))) pl4 lcs ne4 (by omega) (c := q) (by simp [l]) rfl).imp fun sd2 s2 h => ⟨⟨rs, rfl⟩, j + 3, by omega, h⟩) ((0 :: ms).map D.int) _ s6 ⟨⟨0 :: ms, rfl⟩, 0, by rw [List.length_map, List.length_cons]; omega, L6⟩
  obtain ⟨st, t, m, _, _, _, _, _, _, _, _, _, g5⟩ := L7.ex
  have hv : -(2 ^ 62) ≤ 2 + v ∧ 2 + v < 2 ^ 62 := by omega
  refine ⟨s7, ?_⟩
  generalize (0 :: ms).map D.int = QD at *
  generalize ms.map D.int = MD at *
  have q1 : s1.n = S0.n + 1 := n1
  unfold F_law f_law
  simp (disch := walk_at "d") [m0, hc0, e1, q1, h2, e3, hv, e4, e5, l4, g0, g2, e6, os, mq, e7, g5]
end K08
end
section
open PySem PySem.W PyProof.Rows in
set_option maxRecDepth 100000 in
set_option maxHeartbeats 0 in
theorem PySem.Challenge.cw_askring_k08_whole_each_deed_by_its_looks_holds : PySem.Challenge.rw_askring_k08_whole_each_deed_by_its_looks.Holds := by
  w_on; o_law; k_head; (case hw => w_witness2)
  k_fill
  refine DL.walk (kl := 4) (l := PySem.Challenge.rw_askring_k08_whole_each_deed_by_its_looks) (by decide) rfl rfl (fun w h Y => PySem.W.kIn_of Y) ?F
  case F =>
    intro w mg fa h KX G hmg
    refine' K08.all_mk KX G hmg ?g_Store ?g_RingError ?g_NoDeed ?pg_Store ?hd_Store ?po_Store ?sa_Store ?mk_Store ?kc_Store ?n_int ?n_len ?n_list ?n_range ?a_Store_rows ?a_Store_worths ?xE_RingError ?kE_RingError ?bE_RingError ?tE_RingError ?iE_RingError ?xE_NoDeed ?kE_NoDeed ?bE_NoDeed ?tE_NoDeed ?iE_NoDeed ?g_stream ?l_stream ?c_stream ?kp_stream ?g_take ?l_take ?c_take ?kp_take ?g_cell ?l_cell ?c_cell ?kp_cell ?m_Store_init ?i_Store_init ?l_Store_init ?c_Store_init ?kp_Store_init ?m_Store_waits ?i_Store_waits ?l_Store_waits ?c_Store_waits ?kp_Store_waits ?m_Store_memory ?i_Store_memory ?l_Store_memory ?c_Store_memory ?kp_Store_memory ?m_Store_read ?i_Store_read ?l_Store_read ?c_Store_read ?kp_Store_read ?g_looks ?l_looks ?c_looks ?kp_looks ?g_worth ?l_worth ?c_worth ?kp_worth ?m_Store_write ?i_Store_write ?l_Store_write ?c_Store_write ?kp_Store_write ?m_Store_drain ?i_Store_drain ?l_Store_drain ?c_Store_drain ?kp_Store_drain ?g_drained ?l_drained ?c_drained ?kp_drained ?m_Store_fence ?i_Store_fence ?l_Store_fence ?c_Store_fence ?kp_Store_fence ?g_step ?l_step ?c_step ?kp_step ?g_law ?l_law ?c_law ?kp_law K08.law_true
    (case g_Store => k_is)
    (case g_RingError => k_is)
    (case g_NoDeed => k_is)
    (case pg_Store => k_is)
    (case hd_Store => k_is)
    (case po_Store => k_is)
    (case sa_Store => k_is)
    (case mk_Store => k_is)
    (case kc_Store => k_is)
    (case n_int => k_is)
    (case n_len => k_is)
    (case n_list => k_is)
    (case n_range => k_is)
    (case a_Store_rows => k_is)
    (case a_Store_worths => k_is)
    (case xE_RingError => k_exc)
    (case kE_RingError => k_is)
    (case bE_RingError => k_is)
    (case tE_RingError => k_is)
    (case iE_RingError => k_is)
    (case xE_NoDeed => k_exc)
    (case kE_NoDeed => k_is)
    (case bE_NoDeed => k_is)
    (case tE_NoDeed => k_is)
    (case iE_NoDeed => k_is)
    (case g_stream => k_is)
    (case l_stream => k_is)
    (case c_stream => k_is)
    (case kp_stream => k_is)
    (case g_take => k_is)
    (case l_take => k_is)
    (case c_take => k_is)
    (case kp_take => k_is)
    (case g_cell => k_is)
    (case l_cell => k_is)
    (case c_cell => k_is)
    (case kp_cell => k_is)
    (case m_Store_init => k_is)
    (case i_Store_init => k_is)
    (case l_Store_init => k_is)
    (case c_Store_init => k_is)
    (case kp_Store_init => k_is)
    (case m_Store_waits => k_is)
    (case i_Store_waits => k_is)
    (case l_Store_waits => k_is)
    (case c_Store_waits => k_is)
    (case kp_Store_waits => k_is)
    (case m_Store_memory => k_is)
    (case i_Store_memory => k_is)
    (case l_Store_memory => k_is)
    (case c_Store_memory => k_is)
    (case kp_Store_memory => k_is)
    (case m_Store_read => k_is)
    (case i_Store_read => k_is)
    (case l_Store_read => k_is)
    (case c_Store_read => k_is)
    (case kp_Store_read => k_is)
    (case g_looks => k_is)
    (case l_looks => k_is)
    (case c_looks => k_is)
    (case kp_looks => k_is)
    (case g_worth => k_is)
    (case l_worth => k_is)
    (case c_worth => k_is)
    (case kp_worth => k_is)
    (case m_Store_write => k_is)
    (case i_Store_write => k_is)
    (case l_Store_write => k_is)
    (case c_Store_write => k_is)
    (case kp_Store_write => k_is)
    (case m_Store_drain => k_is)
    (case i_Store_drain => k_is)
    (case l_Store_drain => k_is)
    (case c_Store_drain => k_is)
    (case kp_Store_drain => k_is)
    (case g_drained => k_is)
    (case l_drained => k_is)
    (case c_drained => k_is)
    (case kp_drained => k_is)
    (case m_Store_fence => k_is)
    (case i_Store_fence => k_is)
    (case l_Store_fence => k_is)
    (case c_Store_fence => k_is)
    (case kp_Store_fence => k_is)
    (case g_step => k_is)
    (case l_step => k_is)
    (case c_step => k_is)
    (case kp_step => k_is)
    (case g_law => k_is)
    (case l_law => k_is)
    (case c_law => k_is)
    (case kp_law => k_is)
end
